import PyProof.Rows.All
import Wide.All
import OpenK.AllK
import Wide.FinOn
import PySem.Challenge.RW_asinturn_k05_own_meetings
import HandS.ForMost
import HandS.Walk
import HandS.Wide
import HandS.Deep
import HandS.TupAny
import HandS.IsInst
import HandS.Flow
import HandS.Style
import HandS.Conv
import HandS.Exc
import HandS.ExcOwn
import HandS.WordsExc
import KE.SortData
import HandS.More
import HandS.Zip0
import HandS.Zip
import KE.DataCmp
set_option Elab.async false
set_option linter.all false
set_option maxRecDepth 100000
set_option maxHeartbeats 4000000
/-! Ev1: data, a small tree of the program's own texts, and what it computes: a plain evaluator. -/
namespace Aw
open PySem PyProof.Rows

inductive D where
  | non | bl (b : Bool) | int (i : Int) | str (s : Str)
  | tup (xs : List D)
  | lst (fz : Bool) (xs : List D)
  | dct (fz t : Bool) (ks vs : List D)
  | set (fz : Bool) (xs : List D)
  | obj (c : Nat) (vs : List D)

mutual
def D.fzn : D → Bool
  | .non => true | .bl _ => true | .int _ => true | .str _ => true
  | .tup xs => fzns xs
  | .lst fz xs => fz && fzns xs
  | .dct fz _ ks vs => fz && fzns ks && fzns vs
  | .set fz xs => fz && fzns xs
  | .obj _ _ => false
def fzns : List D → Bool
  | [] => true
  | x :: xs => x.fzn && fzns xs
end
mutual
def D.fz : D → D
  | .non => .non | .bl b => .bl b | .int i => .int i | .str s => .str s
  | .tup xs => .tup (fzs xs)
  | .lst _ xs => .lst true (fzs xs)
  | .dct _ t ks vs => .dct true t (fzs ks) (fzs vs)
  | .set _ xs => .set true (fzs xs)
  | .obj c vs => .obj c vs
def fzs : List D → List D
  | [] => []
  | x :: xs => x.fz :: fzs xs
end
mutual
/-- the same thing, letter by letter -/
def D.same : D → D → Bool
  | .non, .non => true
  | .bl a, .bl b => a == b
  | .int a, .int b => a == b
  | .str a, .str b => decide (a = b)
  | .tup xs, .tup ys => sames xs ys
  | .lst f xs, .lst g ys => f == g && sames xs ys
  | .dct f t ks vs, .dct g u ls ws => f == g && t == u && sames ks ls && sames vs ws
  | .set f xs, .set g ys => f == g && sames xs ys
  | .obj c vs, .obj d ws => c == d && sames vs ws
  | _, _ => false
def sames : List D → List D → Bool
  | [], [] => true
  | x :: xs, y :: ys => x.same y && sames xs ys
  | _, _ => false
end
mutual
/-- Python's == -/
def deq : D → D → Bool
  | .non, .non => true
  | .bl a, .bl b => a == b
  | .bl a, .int j => (if a then 1 else 0) == j
  | .int i, .bl b => i == (if b then 1 else 0)
  | .int i, .int j => i == j
  | .str x, .str y => x == y
  | .tup xs, .tup ys => deqs xs ys
  | .lst _ xs, .lst _ ys => deqs xs ys
  | _, _ => false
def deqs : List D → List D → Bool
  | [], [] => true
  | x :: xs, y :: ys => deq x y && deqs xs ys
  | _, _ => false
end
mutual
/-- None, dBools, dInts, texts, tuples and lists of these -/
def D.plain : D → Bool
  | .non => true | .bl _ => true | .int _ => true | .str _ => true
  | .tup xs => plains xs
  | .lst _ xs => plains xs
  | .dct _ _ _ _ => false
  | .set _ _ => false
  | .obj _ _ => false
def plains : List D → Bool
  | [] => true
  | x :: xs => x.plain && plains xs
end
mutual
def D.dep : D → Nat
  | .tup xs => deps xs + 1
  | .lst _ xs => deps xs + 1
  | _ => 0
def deps : List D → Nat
  | [] => 0
  | x :: xs => max x.dep (deps xs)
end

mutual
/-- a plain datum as the library has it -/
def toPy : D → PyData
  | .non => .none
  | .bl b => .bool b
  | .int i => .int i
  | .str s => .str s
  | .tup xs => .tuple (toPys xs)
  | .lst _ xs => .list (toPys xs)
  | _ => .none
def toPys : List D → List PyData
  | [] => []
  | x :: xs => toPy x :: toPys xs
end
def D.isTup : D → Bool
  | .tup (_ :: _) => true
  | _ => false
def D.flat : D → Bool
  | .tup _ => false
  | .non => false
  | _ => true
def dSort (xs : List D) : Option D :=
  if fzns xs && plains xs && decide (deps xs ≤ 60) && decide (xs.length ≤ sizeLine) && (xs.all fun a => xs.all fun b => PySem.W.alike (toPy a) (toPy b)) && (xs.all D.isTup || xs.all D.flat) then
    some (.lst false (xs.mergeSort fun a b => !PySem.W.dataLt (toPy b) (toPy a)))
  else none
abbrev Env := List (Option D)
inductive R (α : Type) where
  | ok (a : α) (ρ : Env) | exc (x : D) (ρ : Env) | stuck
inductive Out where
  | nx (ρ : Env) | rt (d : D) (ρ : Env) | bk (ρ : Env) | ct (ρ : Env) | exc (x : D) (ρ : Env) | stuck
inductive FR where
  | ok (d : D) (ds : List D) | exc (x : D) (ds : List D) | stuck
def R.bind {α β : Type} (r : R α) (k : α → Env → R β) : R β := match r with
  | .ok a ρ => k a ρ
  | .exc x ρ => .exc x ρ
  | .stuck => .stuck
def R.then {α : Type} (r : R α) (k : α → Env → Out) : Out := match r with
  | .ok a ρ => k a ρ
  | .exc x ρ => .exc x ρ
  | .stuck => .stuck
def R.of {α : Type} (o : Option α) (ρ : Env) : R α := match o with
  | some a => .ok a ρ
  | none => .stuck
/-- an operand: a value of its own, or what stands in a slot -/
inductive Opd where
  | own (d : D) | sl (i : Nat)
def gt (ρ : Env) (i : Nat) : Option D := match ρ[i]? with
  | some o => o
  | none => none
def Opd.get (o : Opd) (ρ : Env) : Option D := match o with
  | .own d => some d
  | .sl i => gt ρ i
def gets (ρ : Env) : List Opd → Option (List D)
  | [] => some []
  | o :: os => match o.get ρ with
    | some d => match gets ρ os with
      | some ds => some (d :: ds)
      | none => none
    | none => none

inductive Op2 where | add | sub | mul | fdiv | mod | pow
inductive Cp where | eq | ne | lt | le | gt | ge | isIn | notIn | is | isNot
inductive Bi where | len | int | list | tuple | str | sum | any | all | abs | bool | min2 | max2 | sorted
inductive Mt where | join
inductive Mm where | append | extend | pop | insert | index
inductive Ty where | int | bool | str | tuple | list | dict
inductive Md where | keep | read | test
inductive Tg where
  | nm (i : Nat) | tup (ts : List Tg)

mutual
inductive E where
  | var (i : Nat)
  | cst (d : D)
  | glb (x : Str) (d : D)
  | bin (o : Op2) (a b : E)
  | neg (a : E)
  | cmp (o : Cp) (a b : E)
  | cmp2 (o p : Cp) (a b c : E)
  | bop (c : Bool) (a b : E)
  | not (a : E)
  | ite (c a b : E)
  | tup (es : Es)
  | lst (es : Es)
  | ix (a i : E)
  | sl (a : E) (lo hi : Eo)
  | call (f : Nat) (es : Es)
  | bi (b : Bi) (es : Es)
  | isi (a : E) (ts : List Ty)
  | mt (m : Mt) (a : E) (es : Es)
  | mm (m : Mm) (i : Nat) (es : Es)
  | dnew (t : Bool)
  | callk (f : Nat) (es : Es) (pm : List Nat)
  | frz (e : E)
  | dget (a k : E) (d : Eo)
  | lc (own : List Nat) (t : Tg) (it : It) (c : Eo) (e : E)
inductive Es where
  | nil | cons (e : E) (es : Es)
inductive Eo where
  | no | yes (e : E)
inductive It where
  | e (e : E) | rng (es : Es) | enum (e : E) | zip (a b : E)
end
mutual
inductive S where
  | asg (t : Tg) (e : E)
  | sub (i : Nat) (k e : E)
  | aug (i : Nat) (o : Op2) (e : E)
  | ex (e : E)
  | iff (c : E) (a b : Ss)
  | forr (t : Tg) (it : It) (b : Ss)
  | whil (c : E) (b : Ss)
  | ret (e : E)
  | retn | brk | cnt | pass
inductive Ss where
  | nil | cons (s : S) (ss : Ss)
end

/-! ### operations on data -/
/-- a dict's keys: ints and texts (t = false), tuples of these (t = true) -/
def keyOk1 : D → Bool
  | .int _ => true | .str _ => true
  | _ => false
def keyOk (t : Bool) : D → Bool
  | .tup ds => t && ds.all keyOk1
  | d => !t && keyOk1 d
def dLook (k : D) : List D → List D → Option D
  | x :: ks, v :: vs => if x.same k then some v else dLook k ks vs
  | _, _ => none
def dHas (k : D) (ks : List D) : Bool := ks.any fun x => x.same k
def dPutK (k : D) (ks : List D) : List D := if dHas k ks then ks else ks ++ [k]
def dRepl (k v : D) : List D → List D → List D
  | x :: ks, y :: vs => (if x.same k then v else y) :: dRepl k v ks vs
  | _, _ => []
def dPutV (k v : D) (ks vs : List D) : List D := if dHas k ks then dRepl k v ks vs else vs ++ [v]
def dLen : D → Option D
  | .str s => if s.length ≤ sizeLine then some (.int s.length) else none
  | .tup xs => some (.int xs.length)
  | .lst _ xs => some (.int xs.length)
  | .dct _ false ks _ => some (.int ks.length)
  | _ => none
def dTru : D → Option Bool
  | .non => some false
  | .bl b => some b
  | .int i => some (i != 0)
  | .str s => if s.length ≤ sizeLine then some ((s.length : Int) != 0) else none
  | .tup xs => some (!xs.isEmpty)
  | .lst _ xs => some (!xs.isEmpty)
  | .dct false false ks _ => some (!ks.isEmpty)
  | _ => none
def dBin : Op2 → D → D → Option D
  | .add, .int a, .int b => some (.int (a + b))
  | .add, .str a, .str b => if a.length + b.length ≤ sizeLine then some (.str (a ++ b)) else none
  | .add, .tup a, .tup b => if fzns a && fzns b && decide (a.length + b.length ≤ sizeLine) then some (.tup (a ++ b)) else none
  | .add, .lst false a, .lst false b => if fzns a && fzns b && decide (a.length + b.length ≤ sizeLine) then some (.lst false (a ++ b)) else none
  | .sub, .int a, .int b => some (.int (a - b))
  | .mul, .int a, .int b => if a.natAbs.log2 + b.natAbs.log2 < 1000000 then some (.int (a * b)) else none
  | .mul, .lst false a, .int n => if fzns a && decide (-(2 ^ 63) ≤ n) && decide (n < 2 ^ 63) && decide (a.length * n.toNat ≤ sizeLine) then some (.lst false (List.replicate n.toNat a).flatten) else none
  | .fdiv, .int a, .int b => if 0 < b ∧ b.natAbs.log2 < 9000 then some (.int (a / b)) else none
  | .mod, .int a, .int b => if 0 < b then some (.int (a % b)) else none
  | .pow, .int a, .int b => if 0 ≤ b ∧ b ≤ 1000000 ∧ a.natAbs < 2 ^ 64 then some (.int (a ^ b.toNat)) else none
  | _, _, _ => none
/-- a op= b -/
def dAug : Op2 → D → D → Option D
  | .add, .int a, .int b => some (.int (a + b))
  | .add, .str a, .str b => if a.length + b.length ≤ sizeLine then some (.str (a ++ b)) else none
  | .sub, .int a, .int b => some (.int (a - b))
  | .mul, .int a, .int b => if -(2 ^ 64) < b ∧ b < 2 ^ 64 then some (.int (a * b)) else none
  | _, _, _ => none
def dNeg : D → Option D
  | .int a => some (.int (-a))
  | _ => none
def dEq (x y : D) : Option Bool := if x.plain && y.plain && decide (x.dep ≤ 64) then some (deq x y) else none
def dIn (x : D) : D → Option Bool
  | .tup ys => if x.plain && plains ys && decide (x.dep ≤ 64) then some (ys.any fun y => deq y x) else none
  | .lst _ ys => if x.plain && plains ys && decide (x.dep ≤ 64) then some (ys.any fun y => deq y x) else none
  | .str z => match x with
    | .str c => some (!(Builtin.Str.occurrences z c 0 z.length 1).isEmpty)
    | _ => none
  | .dct _ t ks _ => if keyOk t x then some (dHas x ks) else none
  | _ => none
def D.isNon : D → Bool
  | .non => true
  | _ => false
def dCmp : Cp → D → D → Option Bool
  | .eq, x, y => dEq x y
  | .ne, x, y => (dEq x y).map not
  | .lt, .int a, .int b => some (decide (a < b))
  | .le, .int a, .int b => some (decide (a ≤ b))
  | .gt, .int a, .int b => some (decide (b < a))
  | .ge, .int a, .int b => some (decide (b ≤ a))
  | .isIn, x, y => dIn x y
  | .notIn, x, y => (dIn x y).map not
  | .is, x, .non => some x.isNon
  | .isNot, x, .non => some (!x.isNon)
  | _, _, _ => none
def dIx : D → D → Option D
  | .tup xs, .int i => L2.atI xs i
  | .lst _ xs, .int i => L2.atI xs i
  | .str z, .int i => if z.length ≤ sizeLine then (L2.atI z.cps.toList i).map fun c => .str ⟨#[c]⟩ else none
  | .str z, .bl b => if z.length ≤ sizeLine then (L2.atI z.cps.toList (if b then 1 else 0)).map fun c => .str ⟨#[c]⟩ else none
  | .dct _ t ks vs, k => if keyOk t k then dLook k ks vs else none
  | _, _ => none
def cut {α : Type} (xs : List α) (lo hi : Option Int) : List α :=
  (xs.drop (HT.sIx xs.length 0 lo)).take (HT.sIx xs.length xs.length hi - HT.sIx xs.length 0 lo)
def dSl (lo hi : Option Int) : D → Option D
  | .tup xs => if fzns xs then some (.tup (cut xs lo hi)) else none
  | .lst _ xs => if fzns xs then some (.lst false (cut xs lo hi)) else none
  | .str z => if z.length ≤ sizeLine then some (.str (L2.cutS z lo hi)) else none
  | _ => none
def dInts : List D → Option (List Int)
  | [] => some []
  | .int i :: r => (dInts r).map (i :: ·)
  | _ => none
def dBools : List D → Option (List Bool)
  | [] => some []
  | .bl i :: r => (dBools r).map (i :: ·)
  | _ => none
def dStrs : List D → Option (List Str)
  | [] => some []
  | .str i :: r => (dStrs r).map (i :: ·)
  | _ => none
def dBi : Bi → List D → Option D
  | .len, [x] => dLen x
  | .int, [.int i] => some (.int i)
  | .int, [.bl b] => some (.int (if b then 1 else 0))
  | .bool, [.int i] => some (.bl (i != 0))
  | .bool, [.bl b] => some (.bl b)
  | .list, [.tup xs] => if fzns xs then some (.lst false xs) else none
  | .list, [.lst _ xs] => if fzns xs then some (.lst false xs) else none
  | .tuple, [.tup xs] => if fzns xs then some (.tup xs) else none
  | .tuple, [.lst _ xs] => if fzns xs then some (.tup xs) else none
  | .str, [.int i] => if i.natAbs.log2 < 1920 then some (.str (toString i)) else none
  | .sum, [.lst _ xs] => (dInts xs).map fun ns => .int ns.sum
  | .any, [.lst _ xs] => (dBools xs).map fun ns => .bl (ns.any id)
  | .all, [.lst _ xs] => (dBools xs).map fun ns => .bl (ns.all id)
  | .abs, [.int i] => some (.int (if i < 0 then -i else i))
  | .sorted, [.lst _ xs] => dSort xs
  | .max2, [.int i, .int j] => some (.int (if j > i then j else i))
  | .min2, [.int i, .int j] => some (.int (if j < i then j else i))
  | _, _ => none
def isTy : Ty → D → Option Bool
  | _, .obj _ _ => none
  | _, .dct true true _ _ => none
  | .int, .int _ => some true
  | .int, .bl _ => some true
  | .bool, .bl _ => some true
  | .str, .str _ => some true
  | .tuple, .tup _ => some true
  | .list, .lst _ _ => some true
  | .dict, .dct _ _ _ _ => some true
  | _, _ => some false
def isTys (ts : List Ty) (d : D) : Option Bool := match ts with
  | [] => some false
  | t :: ts => match isTy t d with
    | some true => some true
    | some false => isTys ts d
    | none => none
def joined (a : Str) (ys : List Str) : Nat := (ys.map Str.length).sum + ys.length * a.length
def dMt : Mt → Str → List D → Option D
  | .join, a, [.tup xs] => match dStrs xs with
    | some ys => if joined a ys ≤ 16777216 then some (.str (Txt.join a ys)) else none
    | none => none
  | .join, a, [.lst _ xs] => match dStrs xs with
    | some ys => if joined a ys ≤ 16777216 then some (.str (Txt.join a ys)) else none
    | none => none
  | _, _, _ => none
/-- a method that changes its list: what it gives, what the list is then -/
def dMm : Mm → List D → List D → Option (D × List D)
  | .append, xs, [d] => if xs.length < sizeLine then some (.non, xs ++ [d]) else none
  | .extend, xs, [.lst false ys] => if fzns ys && decide (xs.length + ys.length ≤ sizeLine) then some (.non, xs ++ ys) else none
  | .pop, xs, [] => if fzns xs then (match xs[xs.length - 1]? with | some y => some (y, xs.dropLast) | none => none) else none
  | .pop, xs, [.int i] => if fzns xs && decide (-(2 ^ 63) ≤ i) && decide (i < 2 ^ 63) then (match L2.ixN xs.length i with
    | some k => (match xs[k]? with | some y => some (y, xs.eraseIdx k) | none => none)
    | none => none) else none
  | .insert, xs, [.int i, d] => if fzns xs && d.fzn && decide (xs.length < sizeLine) && decide (0 ≤ i) && decide (i < 2 ^ 63) then some (.non, xs.take i.toNat ++ [d] ++ xs.drop i.toNat) else none
  | .index, xs, [.int v] => match dInts xs with
    | some ns => (match ns.findIdx? (· == v) with | some j => some (.int j, xs) | none => none)
    | none => none
  | _, _, _ => none
def Mm.md : Mm → Md
  | .extend => .read
  | _ => .keep

/-! ### the frame -/
structure Ct where
  np : Nat
  args : List D
  cf : Nat → List D → FR
  wf : Nat
  lk : List Nat
def mayAsg (C : Ct) (i : Nat) : Bool := !C.lk.contains i && (if i < C.np then (match C.args[i]? with | some d => d.fzn | none => false) else true)
def put (C : Ct) (i : Nat) (d : D) (ρ : Env) : Option Env := if mayAsg C i && decide (i < ρ.length) then some (ρ.set i (some d)) else none
mutual
def asgT (C : Ct) : Tg → D → Env → Option Env
  | .nm i, d, ρ => put C i d ρ
  | .tup ts, d, ρ => match d with
    | .tup ds => asgTs C ts ds ρ
    | _ => none
def asgTs (C : Ct) : List Tg → List D → Env → Option Env
  | [], ds, ρ => match ds with
    | [] => some ρ
    | _ => none
  | t :: ts, ds, ρ => match ds with
    | d :: ds => match asgT C t d ρ with
      | some ρ1 => asgTs C ts ds ρ1
      | none => none
    | _ => none
end
/-- arguments: what is no one else's is handed over for the time of the call -/
def takes (ρ : Env) : List Opd → Option (List D × Env)
  | [] => some ([], ρ)
  | .own d :: r => match takes ρ r with
    | some (ds, ρ') => some (d :: ds, ρ')
    | none => none
  | .sl i :: r => match gt ρ i with
    | some d => match takes (if d.fzn then ρ else ρ.set i none) r with
      | some (ds, ρ') => some (d :: ds, ρ')
      | none => none
    | none => none
def puts (ρ : Env) : List Opd → List D → Env
  | .sl i :: r, d :: ds => puts (match gt ρ i with | some _ => ρ | none => ρ.set i (some d)) r ds
  | .own _ :: r, _ :: ds => puts ρ r ds
  | _, _ => ρ
def fins : List D → Env → Option (List D)
  | [], _ => some []
  | a :: as, c :: ρ => match (if a.fzn then some a else c), fins as ρ with
    | some d, some ds => some (d :: ds)
    | _, _ => none
  | _, _ => none
def clear (ρ : Env) : List Nat → Env
  | [] => ρ
  | i :: is => (clear ρ is).set i none
def back (old ρ : Env) : List Nat → Env
  | [] => ρ
  | i :: is => (back old ρ is).set i (gt old i)
def clearOk (C : Ct) (ρ : Env) : List Nat → Bool
  | [] => true
  | i :: is => mayAsg C i && decide (i < ρ.length) && (match gt ρ i with | some d => d.fzn | none => true) && clearOk C ρ is
abbrev Grd := List (Nat × D)
/-- a walked list's slot is not stored to -/
def Ct.lock (C : Ct) (gs : Grd) : Ct := { C with lk := gs.map (·.1) ++ C.lk }
def gOk (gs : Grd) (ρ : Env) : Bool := gs.all fun g => match gt ρ g.1 with
  | some d => d.same g.2
  | none => false
def grdOf (o : Opd) (d : D) : Grd := match o with
  | .own _ => []
  | .sl i => if d.fzn then [] else [(i, d)]
def chars (z : Str) : List D := z.cps.toList.map fun c => .str ⟨#[c]⟩
def items : D → Option (List D)
  | .tup xs => if fzns xs then some xs else none
  | .lst _ xs => if fzns xs then some xs else none
  | .str z => if z.length ≤ sizeLine then some (chars z) else none
  | _ => none
def seqItems : D → Option (List D)
  | .tup xs => if fzns xs then some xs else none
  | .lst _ xs => if fzns xs then some xs else none
  | _ => none
def rngL (lo : Int) (n : Nat) : List D := (List.range n).map fun (i : Nat) => .int (lo + (i : Int))
def dRng : List D → Option (List D)
  | [.int n] => if -(2 ^ 62) ≤ n ∧ n ≤ sizeLine then some (rngL 0 n.toNat) else none
  | [.int lo, .int hi] => if -(2 ^ 62) ≤ lo ∧ lo < 2 ^ 62 ∧ -(2 ^ 62) ≤ hi ∧ hi < 2 ^ 62 ∧ hi - lo ≤ sizeLine then some (rngL lo (hi - lo).toNat) else none
  | _ => none
def enumL : Nat → List D → List D
  | _, [] => []
  | n, x :: xs => .tup [.int (n : Int), x] :: enumL (n + 1) xs
def zipL : List D → List D → List D
  | x :: xs, y :: ys => .tup [x, y] :: zipL xs ys
  | _, _ => []

def zipD : D → D → Option (List D)
  | .tup xs, .tup ys => if fzns xs && fzns ys then some (zipL xs ys) else none
  | .lst _ xs, .lst _ ys => if fzns xs && fzns ys then some (zipL xs ys) else none
  | _, _ => none

/-! ### expressions -/
def val (o : Opd) (ρ : Env) (k : D → Option D) : R Opd := match o.get ρ with
  | some d => match k d with
    | some e => .ok (.own e) ρ
    | none => .stuck
  | none => .stuck
def fin (md : Md) (r : R Opd) : R Opd := match md with
  | .test => r.bind fun o ρ => val o ρ fun d => (dTru d).map D.bl
  | _ => r
def two (o p : Opd) (ρ : Env) (k : D → D → Option D) : R Opd := match o.get ρ, p.get ρ with
  | some x, some y => match k x y with
    | some d => .ok (.own d) ρ
    | none => .stuck
  | _, _ => .stuck
def many (os : List Opd) (ρ : Env) (k : List D → Option D) : R Opd := match gets ρ os with
  | some ds => match k ds with
    | some d => .ok (.own d) ρ
    | none => .stuck
  | none => .stuck
def owns : List Opd → Option (List D)
  | [] => some []
  | .own d :: r => (owns r).map (d :: ·)
  | _ => none
/-- only what is frozen is handed out of a list, a tuple -/
def only (d : D) : Option D := if d.fzn then some d else none
def evVar (i : Nat) (md : Md) (ρ : Env) : R Opd := match md with
  | .keep => match gt ρ i with
    | some d => if d.fzn then .ok (.own d) ρ else .ok (.own d.fz) (ρ.set i (some d.fz))
    | none => .stuck
  | _ => match gt ρ i with
    | some _ => .ok (.sl i) ρ
    | none => .stuck
def bound : Opd → Option (Option Int)
  | .own (.int i) => some (some i)
  | _ => none
def callR (C : Ct) (f : Nat) (os : List Opd) (ρ : Env) : R Opd := match takes ρ os with
  | some (ds, ρ1) => match C.cf f ds with
    | .ok d ds' => .ok (.own d) (puts ρ1 os ds')
    | .exc x ds' => .exc x (puts ρ1 os ds')
    | .stuck => .stuck
  | none => .stuck
def opnds (m : Mm) (os : List Opd) (ρ : Env) : Option (List D) := match m.md with
  | .keep => owns os
  | _ => gets ρ os
def mmR (m : Mm) (i : Nat) (os : List Opd) (ρ : Env) : R Opd := match gt ρ i with
  | some (.lst false xs) => match opnds m os (ρ.set i none) with
    | some ds => match dMm m xs ds with
      | some (d, ys) => .ok (.own d) (ρ.set i (some (.lst false ys)))
      | none => .stuck
    | none => .stuck
  | _ => .stuck
def noExc {α : Type} (r : R α) : R α := match r with
  | .exc _ _ => .stuck
  | r => r
/-- a call without arguments may not raise -/
def callR0 (C : Ct) (f : Nat) (os : List Opd) (ρ : Env) : R Opd := match os with
  | [] => noExc (callR C f [] ρ)
  | o :: os => callR C f (o :: os) ρ
/-- keywords' values in the parameters' order -/
def ords (os : List Opd) : List Nat → Option (List Opd)
  | [] => some []
  | i :: r => match os[i]? with
    | some (.sl j) => (ords os r).map (.sl j :: ·)
    | some (.own d) => if d.fzn then (ords os r).map (.own d :: ·) else none
    | none => none
def callRk (C : Ct) (f : Nat) (os : List Opd) (pm : List Nat) (ρ : Env) : R Opd := match ords os pm with
  | some os' => noExc (callR C f os' ρ)
  | none => .stuck
/-- a comprehension's turns -/
def lcL (C : Ct) (own : List Nat) (t : Tg) (gs : Grd) (c : Env → R Opd) (e : Env → R Opd) : List D → Env → R (List D)
  | [], ρ => .ok [] ρ
  | x :: xs, ρ => match asgT C t x (clear ρ own) with
    | none => .stuck
    | some ρ1 => (c ρ1).bind fun b ρ2 => match b with
      | .own (.bl true) => (e ρ2).bind fun o ρ3 => match o with
        | .own d => if gOk gs ρ3 then (lcL C own t gs c e xs ρ3).bind fun ds ρ4 => .ok (d :: ds) ρ4 else .stuck
        | _ => .stuck
      | .own (.bl false) => if gOk gs ρ2 then lcL C own t gs c e xs ρ2 else .stuck
      | _ => .stuck

def lcR (C : Ct) (own : List Nat) (t : Tg) (gs : Grd) (c : Env → R Opd) (e : Env → R Opd) (xs : List D) (ρ1 : Env) : R Opd :=
  if clearOk (C.lock gs) ρ1 own && gOk gs ρ1 then
    (noExc (lcL (C.lock gs) own t gs c e xs ρ1)).bind fun ds ρ2 => .ok (.own (.lst false ds)) (back ρ1 ρ2 own)
  else .stuck
/-- a list of one's own is given out for good -/
def frzO (o : Opd) (ρ : Env) : R Opd := match o with
  | .own d => .ok (.own d.fz) ρ
  | _ => .stuck
def isDct : Option D → Bool
  | some (.dct _ _ _ _) => true
  | _ => false
mutual
def ev (C : Ct) : E → Md → Env → R Opd
  | .var i, md, ρ => fin md (evVar i md ρ)
  | .cst d, md, ρ => fin md (.ok (.own d) ρ)
  | .glb _ d, md, ρ => fin md (.ok (.own d) ρ)
  | .bin op a b, md, ρ => fin md <| (ev C a .read ρ).bind fun x ρ1 => (ev C b .read ρ1).bind fun y ρ2 => two x y ρ2 (dBin op)
  | .neg a, md, ρ => fin md <| (ev C a .read ρ).bind fun x ρ1 => val x ρ1 dNeg
  | .cmp op a b, md, ρ => (ev C a .read ρ).bind fun x ρ1 => (ev C b .read ρ1).bind fun y ρ2 => two x y ρ2 fun d e => (dCmp op d e).map D.bl
  | .cmp2 op op' a b c, md, ρ => (ev C a .read ρ).bind fun x ρ1 => (ev C b .read ρ1).bind fun y ρ2 =>
      (two x y ρ2 fun d e => (dCmp op d e).map D.bl).bind fun t ρ3 => match t with
        | .own (.bl true) => (ev C c .read ρ3).bind fun z ρ4 => two y z ρ4 fun d e => (dCmp op' d e).map D.bl
        | .own (.bl false) => .ok (.own (.bl false)) ρ3
        | _ => .stuck
  | .bop k a b, md, ρ => match md with
    | .test => (ev C a .test ρ).bind fun x ρ1 => match x with
      | .own (.bl t) => if t == k then ev C b .test ρ1 else .ok (.own (.bl t)) ρ1
      | _ => .stuck
    | _ => (ev C a .keep ρ).bind fun x ρ1 => match (x.get ρ1).bind dTru with
      | some t => if t == k then ev C b .keep ρ1 else .ok x ρ1
      | none => .stuck
  | .not a, md, ρ => match md with
    | .test => (ev C a .test ρ).bind fun x ρ1 => match x with
      | .own (.bl t) => .ok (.own (.bl !t)) ρ1
      | _ => .stuck
    | _ => (ev C a .read ρ).bind fun x ρ1 => val x ρ1 fun d => (dTru d).map fun t => D.bl !t
  | .ite c a b, md, ρ => fin md <| (ev C c .test ρ).bind fun x ρ1 => match x with
      | .own (.bl true) => ev C a .keep ρ1
      | .own (.bl false) => ev C b .keep ρ1
      | _ => .stuck
  | .tup es, md, ρ => fin md <| (evs C es .keep ρ).bind fun os ρ1 => match owns os with
      | some ds => if ds.length ≤ sizeLine then .ok (.own (.tup ds)) ρ1 else .stuck
      | none => .stuck
  | .lst es, md, ρ => fin md <| (evs C es .keep ρ).bind fun os ρ1 => match owns os with
      | some ds => if ds.length ≤ sizeLine then .ok (.own (.lst false ds)) ρ1 else .stuck
      | none => .stuck
  | .ix a i, md, ρ => fin md <| (ev C a .read ρ).bind fun x ρ1 => (ev C i .read ρ1).bind fun y ρ2 => two x y ρ2 fun d e => (dIx d e).bind only
  | .sl a lo hi, md, ρ => fin md <| (ev C a .read ρ).bind fun x ρ1 => (evo C lo ρ1).bind fun l ρ2 => (evo C hi ρ2).bind fun h ρ3 => val x ρ3 (dSl l h)
  | .call f es, md, ρ => fin md <| (evs C es .read ρ).bind fun os ρ1 => callR0 C f os ρ1
  | .bi b es, md, ρ => fin md <| (evs C es .read ρ).bind fun os ρ1 => many os ρ1 (dBi b)
  | .isi a ts, md, ρ => fin md <| (ev C a .read ρ).bind fun x ρ1 => val x ρ1 fun d => (isTys ts d).map D.bl
  | .mt m a es, md, ρ => fin md <| (ev C a .read ρ).bind fun x ρ1 => match x.get ρ1 with
      | some (.str z) => (evs C es .read ρ1).bind fun os ρ2 => many os ρ2 (dMt m z)
      | _ => .stuck
  | .mm m i es, md, ρ => fin md <| match gt ρ i with
      | some (.lst false _) => (evs C es m.md ρ).bind fun os ρ1 => mmR m i os ρ1
      | _ => .stuck
  | .callk f es pm, md, ρ => fin md <| (evs C es .read ρ).bind fun os ρ1 => callRk C f os pm ρ1
  | .frz e, md, ρ => fin md <| (ev C e .keep ρ).bind frzO
  | .dnew t, md, ρ => fin md (.ok (.own (.dct false t [] [])) ρ)
  | .dget a k d, md, ρ => fin md <| (ev C a .read ρ).bind fun x ρ1 => if isDct (x.get ρ1) then (ev C k .read ρ1).bind fun y ρ2 => (evd C d ρ2).bind fun z ρ3 => match x.get ρ3, y.get ρ3 with
      | some (.dct _ t ks vs), some k => if keyOk t k then (match dLook k ks vs with
        | some v => if v.fzn then .ok (.own v) ρ3 else .stuck
        | none => .ok z ρ3) else .stuck
      | _, _ => .stuck
    else .stuck
  | .lc own t it c e, md, ρ => fin md <| (evi C it ρ).bind fun xg ρ1 => lcR C own t xg.2 (fun ρ' => evc (C.lock xg.2) c ρ') (fun ρ' => ev (C.lock xg.2) e .keep ρ') xg.1 ρ1
def evs (C : Ct) : Es → Md → Env → R (List Opd)
  | .nil, _, ρ => .ok [] ρ
  | .cons e es, md, ρ => (ev C e md ρ).bind fun o ρ1 => (evs C es md ρ1).bind fun os ρ2 => .ok (o :: os) ρ2
/-- a slice's bound -/
def evo (C : Ct) : Eo → Env → R (Option Int)
  | .no, ρ => .ok none ρ
  | .yes e, ρ => (ev C e .read ρ).bind fun o ρ1 => match o.get ρ1 with
    | some (.int i) => .ok (some i) ρ1
    | _ => .stuck
/-- what .get tells of a key that is not there -/
def evd (C : Ct) : Eo → Env → R Opd
  | .no, ρ => .ok (.own .non) ρ
  | .yes e, ρ => ev C e .keep ρ
/-- a comprehension's test -/
def evc (C : Ct) : Eo → Env → R Opd
  | .no, ρ => .ok (.own (.bl true)) ρ
  | .yes e, ρ => ev C e .test ρ
/-- what is walked: the items, and the slots that must stand still -/
def evi (C : Ct) : It → Env → R (List D × Grd)
  | .e e, ρ => (ev C e .read ρ).bind fun o ρ1 => match o.get ρ1 with
    | some d => match items d with
      | some xs => .ok (xs, grdOf o d) ρ1
      | none => .stuck
    | none => .stuck
  | .rng es, ρ => (evs C es .read ρ).bind fun os ρ1 => match (gets ρ1 os).bind dRng with
    | some xs => .ok (xs, []) ρ1
    | none => .stuck
  | .enum e, ρ => (ev C e .read ρ).bind fun o ρ1 => match o.get ρ1 with
    | some d => match seqItems d with
      | some xs => .ok (enumL 0 xs, grdOf o d) ρ1
      | none => .stuck
    | none => .stuck
  | .zip a b, ρ => (ev C a .read ρ).bind fun o ρ1 => (ev C b .read ρ1).bind fun p ρ2 => match o.get ρ2, p.get ρ2 with
    | some d, some e => match zipD d e with
      | some xs => .ok (xs, grdOf o d ++ grdOf p e) ρ2
      | none => .stuck
    | _, _ => .stuck
end

/-! ### statements -/
def forL (C : Ct) (t : Tg) (gs : Grd) (body : Env → Out) : List D → Env → Out
  | [], ρ => .nx ρ
  | x :: xs, ρ => match asgT C t x ρ with
    | none => .stuck
    | some ρ1 => match body ρ1 with
      | .nx ρ2 => if gOk gs ρ2 then forL C t gs body xs ρ2 else .stuck
      | .ct ρ2 => if gOk gs ρ2 then forL C t gs body xs ρ2 else .stuck
      | .bk ρ2 => .nx ρ2
      | o => o
def whL (test : Env → R Opd) (body : Env → Out) : Nat → Env → Out
  | 0, _ => .stuck
  | n + 1, ρ => (test ρ).then fun o ρ1 => match o with
    | .own (.bl true) => match body ρ1 with
      | .nx ρ2 => whL test body n ρ2
      | .ct ρ2 => whL test body n ρ2
      | .bk ρ2 => .nx ρ2
      | o => o
    | .own (.bl false) => .nx ρ1
    | _ => .stuck
def retV (C : Ct) (i : Nat) (ρ : Env) : Out := match gt ρ i with
  | some d => if d.fzn then .rt d ρ else if C.np ≤ i then .rt d (ρ.set i none) else .rt d.fz (ρ.set i (some d.fz))
  | none => .stuck
def asgS (C : Ct) (t : Tg) (o : Opd) (ρ : Env) : Out := match o with
  | .own d => match asgT C t d ρ with
    | some ρ1 => .nx ρ1
    | none => .stuck
  | _ => .stuck
def subK (i : Nat) (o p : Opd) (ρ : Env) : Out := match o, p.get ρ, gt ρ i with
  | .own d, some (.int j), some (.lst false xs) => match L2.ixN xs.length j with
    | some n => .nx (ρ.set i (some (.lst false (xs.set n d))))
    | none => .stuck
  | .own d, some k, some (.dct false t ks vs) => if d.fzn && keyOk t k && decide (ks.length < sizeLine) then .nx (ρ.set i (some (.dct false t (dPutK k ks) (dPutV k d ks vs)))) else .stuck
  | _, _, _ => .stuck
def hasSub : Option D → Bool
  | some (.lst false _) => true
  | some (.dct false _ _ _) => true
  | _ => false
def augK (C : Ct) (i : Nat) (op : Op2) (x : D) (o : Opd) (ρ : Env) : Out := match o.get ρ with
  | some y => match dAug op x y with
    | some d => match put C i d ρ with
      | some ρ2 => .nx ρ2
      | none => .stuck
    | none => .stuck
  | none => .stuck
mutual
def exS (C : Ct) : S → Env → Out
  | .asg t e, ρ => (ev C e .keep ρ).then fun o ρ1 => asgS C t o ρ1
  | .sub i k e, ρ => (ev C e .keep ρ).then fun o ρ1 => if hasSub (gt ρ1 i) then (ev C k .read ρ1).then fun p ρ2 => subK i o p ρ2 else .stuck
  | .aug i op e, ρ => match gt ρ i with
    | some x => if x.fzn then (ev C e .read ρ).then fun o ρ1 => augK C i op x o ρ1 else .stuck
    | none => .stuck
  | .ex e, ρ => (ev C e .keep ρ).then fun _ ρ1 => .nx ρ1
  | .iff c a b, ρ => (ev C c .test ρ).then fun o ρ1 => match o with
    | .own (.bl true) => exSs C a ρ1
    | .own (.bl false) => exSs C b ρ1
    | _ => .stuck
  | .forr t it b, ρ => (evi C it ρ).then fun xg ρ1 => if gOk xg.2 ρ1 then forL (C.lock xg.2) t xg.2 (fun ρ' => exSs (C.lock xg.2) b ρ') xg.1 ρ1 else .stuck
  | .whil c b, ρ => whL (fun ρ' => ev C c .test ρ') (fun ρ' => exSs C b ρ') C.wf ρ
  | .ret e, ρ => match e with
    | .var i => retV C i ρ
    | e => (ev C e .keep ρ).then fun o ρ1 => match o with
      | .own d => .rt d ρ1
      | _ => .stuck
  | .retn, ρ => .rt .non ρ
  | .brk, ρ => .bk ρ
  | .cnt, ρ => .ct ρ
  | .pass, ρ => .nx ρ
def exSs (C : Ct) : Ss → Env → Out
  | .nil, ρ => .nx ρ
  | .cons s ss, ρ => match exS C s ρ with
    | .nx ρ1 => exSs C ss ρ1
    | o => o
end

/-! ### the defs -/
structure Fd where
  np : Nat
  n : Nat
  body : Ss
def finF (ds : List D) (o : Out) : FR := match o with
  | .nx ρ => match fins ds ρ with
    | some es => .ok .non es
    | none => .stuck
  | .rt d ρ => match fins ds ρ with
    | some es => .ok d es
    | none => .stuck
  | .exc x ρ => match fins ds ρ with
    | some es => .exc x es
    | none => .stuck
  | _ => .stuck
def callF (T : List Fd) (wf : Nat) : Nat → Nat → List D → FR
  | 0, _, _ => .stuck
  | k + 1, f, ds => match T[f]? with
    | some F => if ds.length = F.np then finF ds (exSs ⟨F.np, ds, callF T wf k, wf, []⟩ F.body (ds.map some ++ List.replicate (F.n - F.np) none)) else .stuck
    | none => .stuck
end Aw

set_option Elab.async false
set_option linter.all false
set_option maxRecDepth 100000
set_option maxHeartbeats 4000000
/-! Ev2: how data lies in the abstract heap; situations; what a reading by the evaluator is. -/
namespace Aw
open PySem L2 PySem.Spec
open PyProof.Rows hiding St

/-! ### data in the heap -/
/-- a list that never changes any more -/
def SqF (K : W.Frag) (H : Hp) (a : Addr) (xs : List V) : Prop :=
  (∃ o, H a = some (.frz o (.lst xs))) ∨
    ∃ (o : Obj) (us : Array Value) (n : Nat), K.lookup a = some o ∧ o.cls = .type "list" ∧ o.dict = none ∧ o.data = .seq us n ∧ us.size ≤ sizeLine ∧ Vals xs us.toList
theorem SqF.l {K : W.Frag} {H : Hp} {a : Addr} {xs : List V} (h : SqF K H a xs) : SqL K H a xs := by
  rcases h with ⟨o, h⟩ | h
  · exact .inl (.inr ⟨o, h⟩)
  · exact .inr h
def keyD : L2.Key → D
  | .inl i => .int i
  | .inr z => .str z
/-- a dict's keys as data, its values, what stands in the heap -/
inductive DicO : Bool → List D → List V → HO → Prop
  | k (kvs : List (L2.Key × V)) : DicO false (kvs.map fun kv => keyD kv.1) (kvs.map (·.2)) (.dK kvs)
  | t (kvs : List (List L2.Key × V)) : DicO true (kvs.map fun kv => .tup (kv.1.map keyD)) (kvs.map (·.2)) (.dT kvs)
mutual
inductive Rp (K : W.Frag) (H : Hp) : D → V → List Addr → Prop
  | non : Rp K H .non .non []
  | bl (b : Bool) : Rp K H (.bl b) (.bl b) []
  | int (i : Int) : Rp K H (.int i) (.int i) []
  | str (z : Str) : Rp K H (.str z) (.str z) []
  | tup {a : Addr} {ds : List D} {vs : List V} {S : List Addr} (h : H a = some (.tup vs)) (r : Rps K H ds vs S) : Rp K H (.tup ds) (.ref a) S
  | frz {a : Addr} {ds : List D} {vs : List V} (h : SqF K H a vs) (r : Rps K H ds vs []) : Rp K H (.lst true ds) (.ref a) []
  | lst {a : Addr} {ds : List D} {vs : List V} {S : List Addr} (h : H a = some (.lst vs)) (r : Rps K H ds vs S) (n : a ∉ S) : Rp K H (.lst false ds) (.ref a) (a :: S)
  | dct {a : Addr} {t : Bool} {ks ds : List D} {us : List V} {u : HO} (h : H a = some u) (o : DicO t ks us u) (r : Rps K H ds us []) : Rp K H (.dct false t ks ds) (.ref a) [a]
  | dcf {a : Addr} {t : Bool} {ks ds : List D} {us : List V} {u : HO} {ob : Obj} (h : H a = some (.frz ob u)) (o : DicO t ks us u) (r : Rps K H ds us []) : Rp K H (.dct true t ks ds) (.ref a) []
inductive Rps (K : W.Frag) (H : Hp) : List D → List V → List Addr → Prop
  | nil : Rps K H [] [] []
  | cons {d : D} {v : V} {S : List Addr} {ds : List D} {vs : List V} {T : List Addr} (h : Rp K H d v S) (r : Rps K H ds vs T) (n : ∀ a ∈ S, a ∉ T) : Rps K H (d :: ds) (v :: vs) (S ++ T)
end
/-- what stays for ever -/
def Pst : HO → Prop
  | .tup _ => True
  | .frz _ _ => True
  | _ => False
/-- what someone owns -/
inductive MuO where
  | lst (xs : List V) | dK (kvs : List (Key × V)) | dT (kvs : List (List Key × V)) | set (S : Int → Bool) (n : Nat)
def MuO.ho : MuO → HO
  | .lst xs => .lst xs
  | .dK kvs => .dK kvs
  | .dT kvs => .dT kvs
  | .set S n => .set S n
theorem DicO.mu {t : Bool} {ks : List D} {us : List V} {u : HO} (h : DicO t ks us u) : ∃ m : MuO, u = m.ho := by
  cases h with
  | k kvs => exact ⟨.dK kvs, rfl⟩
  | t kvs => exact ⟨.dT kvs, rfl⟩
theorem MuO.np (m : MuO) : ¬ Pst m.ho := by cases m <;> exact id
def Mu (H : Hp) (a : Addr) : Prop := ∃ m : MuO, H a = some m.ho
def Kp (H H' : Hp) (S : List Addr) : Prop := ∀ a o, H a = some o → Pst o ∨ a ∈ S → H' a = some o
theorem Kp.sub {H H' : Hp} {S T : List Addr} (k : Kp H H' S) (h : ∀ a ∈ T, a ∈ S) : Kp H H' T := fun a o e z => k a o e (z.elim .inl fun q => .inr (h a q))
theorem sqt_kp {K : W.Frag} {H H' : Hp} {a : Addr} {xs : List V} {S : List Addr} (k : Kp H H' S) (h : SqT K H a xs) : SqT K H' a xs := by
  rcases h with (h | ⟨o, h⟩) | h
  · exact .inl (.inl (k a _ h (.inl trivial)))
  · exact .inl (.inr ⟨o, k a _ h (.inl trivial)⟩)
  · exact .inr h
theorem sqf_kp {K : W.Frag} {H H' : Hp} {a : Addr} {xs : List V} {S : List Addr} (k : Kp H H' S) (h : SqF K H a xs) : SqF K H' a xs := by
  rcases h with ⟨o, h⟩ | h
  · exact .inl ⟨o, k a _ h (.inl trivial)⟩
  · exact .inr h
mutual
theorem Rp.kp {K : W.Frag} {H H' : Hp} : ∀ (d : D) {v : V} {S : List Addr}, Rp K H d v S → Kp H H' S → Rp K H' d v S
  | .non, _, _, h, _ => by cases h; exact .non
  | .bl b, _, _, h, _ => by cases h; exact .bl b
  | .int i, _, _, h, _ => by cases h; exact .int i
  | .str z, _, _, h, _ => by cases h; exact .str z
  | .tup ds, _, _, h, k => by
    cases h with
    | tup h r => exact .tup (k _ _ h (.inl trivial)) (Rps.kp ds r k)
  | .lst true ds, _, _, h, k => by
    cases h with
    | frz h r => exact .frz (sqf_kp k h) (Rps.kp ds r k)
  | .lst false ds, _, _, h, k => by
    cases h with
    | lst h r n => exact .lst (k _ _ h (.inr List.mem_cons_self)) (Rps.kp ds r (k.sub fun a m => List.mem_cons_of_mem _ m)) n
  | .dct false _ _ ds, _, _, h, k => by
    cases h with
    | dct h o r => exact .dct (k _ _ h (.inr List.mem_cons_self)) o (Rps.kp ds r (k.sub (by simp)))
  | .dct true _ _ ds, _, _, h, k => by
    cases h with
    | dcf h o r => exact .dcf (k _ _ h (.inl trivial)) o (Rps.kp ds r k)
  | .set _ _, _, _, h, _ => nomatch h
  | .obj _ _, _, _, h, _ => nomatch h
theorem Rps.kp {K : W.Frag} {H H' : Hp} : ∀ (ds : List D) {vs : List V} {S : List Addr}, Rps K H ds vs S → Kp H H' S → Rps K H' ds vs S
  | [], _, _, h, _ => by cases h; exact .nil
  | d :: ds, _, _, h, k => by
    cases h with
    | cons h r n => exact .cons (Rp.kp d h (k.sub fun a m => List.mem_append_left _ m)) (Rps.kp ds r (k.sub fun a m => List.mem_append_right _ m)) n
end
mutual
theorem Rp.mu {K : W.Frag} {H : Hp} : ∀ (d : D) {v : V} {S : List Addr}, Rp K H d v S → ∀ a ∈ S, Mu H a
  | .non, _, _, h => by cases h; simp
  | .bl b, _, _, h => by cases h; simp
  | .int i, _, _, h => by cases h; simp
  | .str z, _, _, h => by cases h; simp
  | .tup ds, _, _, h => by
    cases h with
    | tup h r => exact Rps.mu ds r
  | .lst true ds, _, _, h => by cases h; simp
  | .lst false ds, _, _, h => by
    cases h with
    | lst h r n =>
      intro a m
      rcases List.mem_cons.mp m with rfl | m
      · exact ⟨.lst _, h⟩
      · exact Rps.mu ds r a m
  | .dct false _ _ ds, _, _, h => by
    cases h with
    | dct h o r =>
      intro a m
      obtain rfl := List.mem_singleton.mp m
      obtain ⟨m, rfl⟩ := o.mu
      exact ⟨m, h⟩
  | .dct true _ _ ds, _, _, h => by cases h; simp
  | .set _ _, _, _, h => nomatch h
  | .obj _ _, _, _, h => nomatch h
theorem Rps.mu {K : W.Frag} {H : Hp} : ∀ (ds : List D) {vs : List V} {S : List Addr}, Rps K H ds vs S → ∀ a ∈ S, Mu H a
  | [], _, _, h => by cases h; simp
  | d :: ds, _, _, h => by
    cases h with
    | cons h r n =>
      intro a m
      rcases List.mem_append.mp m with m | m
      · exact Rp.mu d h a m
      · exact Rps.mu ds r a m
end
mutual
/-- what is frozen owns nothing -/
theorem Rp.fzn {K : W.Frag} {H : Hp} : ∀ (d : D) {v : V} {S : List Addr}, Rp K H d v S → d.fzn = true → S = []
  | .non, _, _, h, _ => by cases h; rfl
  | .bl b, _, _, h, _ => by cases h; rfl
  | .int i, _, _, h, _ => by cases h; rfl
  | .str z, _, _, h, _ => by cases h; rfl
  | .tup ds, _, _, h, k => by
    cases h with
    | tup h r => exact Rps.fzn ds r (by simpa [D.fzn] using k)
  | .lst true ds, _, _, h, _ => by cases h; rfl
  | .lst false ds, _, _, h, k => by simp [D.fzn] at k
  | .dct false _ _ _, _, _, h, k => by simp [D.fzn] at k
  | .dct true _ _ _, _, _, h, _ => by cases h; rfl
  | .set _ _, _, _, h, _ => nomatch h
  | .obj _ _, _, _, h, _ => nomatch h
theorem Rps.fzn {K : W.Frag} {H : Hp} : ∀ (ds : List D) {vs : List V} {S : List Addr}, Rps K H ds vs S → fzns ds = true → S = []
  | [], _, _, h, _ => by cases h; rfl
  | d :: ds, _, _, h, k => by
    cases h with
    | cons h r n =>
      have k' : d.fzn = true ∧ fzns ds = true := by simpa [fzns] using k
      rw [Rp.fzn d h k'.1, Rps.fzn ds r k'.2]
      rfl
end
theorem Rps.length {K : W.Frag} {H : Hp} : ∀ {ds : List D} {vs : List V} {S : List Addr}, Rps K H ds vs S → ds.length = vs.length
  | [], _, _, h => by cases h; rfl
  | d :: ds, _, _, h => by
    cases h with
    | cons h r n => simp [Rps.length r]
theorem Rps.get {K : W.Frag} {H : Hp} : ∀ {ds : List D} {vs : List V} {S : List Addr} {i : Nat} {d : D}, Rps K H ds vs S → ds[i]? = some d → ∃ v T, vs[i]? = some v ∧ Rp K H d v T ∧ ∀ a ∈ T, a ∈ S
  | [], _, _, _, _, _, e => by simp at e
  | d :: ds, _, _, 0, _, h, e => by
    cases h with
    | cons h r n =>
      simp at e
      subst e
      exact ⟨_, _, rfl, h, fun a m => List.mem_append_left _ m⟩
  | d :: ds, _, _, i + 1, _, h, e => by
    cases h with
    | cons h r n =>
      obtain ⟨v, T, e1, h1, k⟩ := Rps.get (i := i) r (by simpa using e)
      exact ⟨v, T, by simpa using e1, h1, fun a m => List.mem_append_right _ (k a m)⟩
/-- lists of things that own nothing -/
theorem Rps.fz_of {K : W.Frag} {H : Hp} {ds : List D} {vs : List V} {S : List Addr} (h : Rps K H ds vs S) (k : fzns ds = true) : Rps K H ds vs [] := by
  have e := Rps.fzn ds h k
  subst e
  exact h
theorem Rp.fz_of {K : W.Frag} {H : Hp} {d : D} {v : V} {S : List Addr} (h : Rp K H d v S) (k : d.fzn = true) : Rp K H d v [] := by
  have e := Rp.fzn d h k
  subst e
  exact h
theorem Rps.cons0 {K : W.Frag} {H : Hp} {d : D} {v : V} {ds : List D} {vs : List V} (h : Rp K H d v []) (r : Rps K H ds vs []) : Rps K H (d :: ds) (v :: vs) [] :=
  Rps.cons (S := []) (T := []) h r (by simp)
theorem Rps.splitS {K : W.Frag} {H : Hp} {d : D} {v : V} {ds : List D} {vs : List V} {U : List Addr} (h : Rps K H (d :: ds) (v :: vs) U) (e : U = []) : Rp K H d v [] ∧ Rps K H ds vs [] := by
  cases h with
  | cons h1 r n =>
    obtain ⟨e1, e2⟩ := List.append_eq_nil_iff.mp e
    subst e1 e2
    exact ⟨h1, r⟩
theorem Rps.split {K : W.Frag} {H : Hp} {d : D} {v : V} {ds : List D} {vs : List V} (h : Rps K H (d :: ds) (v :: vs) []) : Rp K H d v [] ∧ Rps K H ds vs [] := Rps.splitS h rfl
theorem Rps.app0 {K : W.Frag} {H : Hp} : ∀ {ds es : List D} {vs ws : List V}, Rps K H ds vs [] → Rps K H es ws [] → Rps K H (ds ++ es) (vs ++ ws) []
  | [], _, _, _, h, g => by cases h; exact g
  | d :: ds, _, v :: vs, _, h, g => by
    obtain ⟨h1, h2⟩ := h.split
    exact .cons0 h1 (Rps.app0 h2 g)
  | d :: ds, _, [], _, h, _ => by
    have := h.length
    simp at this
theorem Rps.get0 {K : W.Frag} {H : Hp} {ds : List D} {vs : List V} {i : Nat} {d : D} (h : Rps K H ds vs []) (e : ds[i]? = some d) : ∃ v, vs[i]? = some v ∧ Rp K H d v [] := by
  obtain ⟨v, T, e1, h1, k⟩ := h.get e
  have : T = [] := List.eq_nil_iff_forall_not_mem.mpr fun a m => by have := k a m; simp at this
  subst this
  exact ⟨v, e1, h1⟩
theorem Rps.drop0 {K : W.Frag} {H : Hp} : ∀ {ds : List D} {vs : List V} (n : Nat), Rps K H ds vs [] → Rps K H (ds.drop n) (vs.drop n) []
  | _, _, 0, h => h
  | [], _, n + 1, h => by cases h; exact .nil
  | d :: ds, v :: vs, n + 1, h => Rps.drop0 (ds := ds) (vs := vs) n h.split.2
  | d :: ds, [], n + 1, h => by have := h.length; simp at this
theorem Rps.take0 {K : W.Frag} {H : Hp} : ∀ {ds : List D} {vs : List V} (n : Nat), Rps K H ds vs [] → Rps K H (ds.take n) (vs.take n) []
  | _, _, 0, h => .nil
  | [], _, n + 1, h => by cases h; exact .nil
  | d :: ds, v :: vs, n + 1, h => .cons0 h.split.1 (Rps.take0 (ds := ds) (vs := vs) n h.split.2)
  | d :: ds, [], n + 1, h => by have := h.length; simp at this
theorem same_cut (xs : List V) (lo hi : Option Int) : cutV xs lo hi = cut xs lo hi := rfl
theorem Rps.cut0 {K : W.Frag} {H : Hp} {ds : List D} {vs : List V} (lo hi : Option Int) (h : Rps K H ds vs []) : Rps K H (cut ds lo hi) (cut vs lo hi) [] := by
  unfold cut
  rw [h.length]
  exact Rps.take0 _ (Rps.drop0 _ h)

/-! ### the same thing, letter by letter -/
mutual
theorem same_ok : ∀ (x y : D), x.same y = true → x = y
  | .non, y, h => by cases y <;> simp [D.same] at h; rfl
  | .bl a, y, h => by cases y <;> simp [D.same] at h; rw [h]
  | .int a, y, h => by cases y <;> simp [D.same] at h; rw [h]
  | .str a, y, h => by cases y <;> simp [D.same] at h; rw [h]
  | .tup xs, y, h => by
    cases y <;> simp [D.same] at h
    rw [sames_ok xs _ h]
  | .lst f xs, y, h => by
    cases y <;> simp [D.same] at h
    rw [h.1, sames_ok xs _ h.2]
  | .dct f t ks vs, y, h => by
    cases y <;> simp [D.same] at h
    rw [h.1.1.1, h.1.1.2, sames_ok ks _ h.1.2, sames_ok vs _ h.2]
  | .set f xs, y, h => by
    cases y <;> simp [D.same] at h
    rw [h.1, sames_ok xs _ h.2]
  | .obj c vs, y, h => by
    cases y <;> simp [D.same] at h
    rw [h.1, sames_ok vs _ h.2]
theorem sames_ok : ∀ (xs ys : List D), sames xs ys = true → xs = ys
  | [], ys, h => by cases ys <;> simp [sames] at h; rfl
  | x :: xs, ys, h => by
    cases ys with
    | nil => simp [sames] at h
    | cons y ys =>
      simp [sames] at h
      rw [same_ok x y h.1, sames_ok xs ys h.2]
end
mutual
theorem same_refl : ∀ x : D, x.same x = true
  | .non => rfl
  | .bl a => by simp [D.same]
  | .int a => by simp [D.same]
  | .str a => by simp [D.same]
  | .tup xs => by simp [D.same, sames_refl xs]
  | .lst f xs => by simp [D.same, sames_refl xs]
  | .dct f t ks vs => by simp [D.same, sames_refl ks, sames_refl vs]
  | .set f xs => by simp [D.same, sames_refl xs]
  | .obj c vs => by simp [D.same, sames_refl vs]
theorem sames_refl : ∀ xs : List D, sames xs xs = true
  | [] => rfl
  | x :: xs => by simp [sames, same_refl x, sames_refl xs]
end

/-! ### situations -/
/-- the frame's slots hold the data; what they own is theirs alone; the slots that may not be stored to are as at the entry (σ0) -/
structure En (K : W.Frag) (C : Ct) (σ0 : St) (H : Hp) (ρ : Env) (σ : St) (O : Nat → List Addr) : Prop where
  len : ρ.length = σ.length
  rep : ∀ i d, gt ρ i = some d → ∃ v, σ[i]? = some (some v) ∧ Rp K H d v (O i)
  dj : ∀ i j a, a ∈ O i → a ∈ O j → i = j
  mu : ∀ i a, a ∈ O i → Mu H a
  pin : ∀ i, mayAsg C i = false → σ[i]? = σ0[i]?
/-- from (H, O) to (H', O') with S at hand -/
structure Step (H : Hp) (O : Nat → List Addr) (H' : Hp) (O' : Nat → List Addr) (S : List Addr) : Prop where
  fr : ∀ a o, H a = some o → (∀ i, a ∉ O i) → H' a = some o
  nw : ∀ a, (a ∈ S ∨ ∃ i, a ∈ O' i) → H a = none ∨ ∃ i, a ∈ O i
structure Sit (K : W.Frag) (C : Ct) (σ0 : St) (H : Hp) (O : Nat → List Addr) (ρ : Env) (σ : St) (H' : Hp) (O' : Nat → List Addr) (S : List Addr) : Prop where
  en : En K C σ0 H' ρ σ O'
  dj : ∀ a ∈ S, ∀ i, a ∉ O' i
  mu : ∀ a ∈ S, Mu H' a
  st : Step H O H' O' S
section
variable {K : W.Frag} {C : Ct} {σ0 : St} {H H1 H2 : Hp} {O O1 O2 : Nat → List Addr} {ρ ρ1 ρ2 : Env} {σ σ1 σ2 : St} {S S1 S2 T : List Addr}
theorem Sit.start (e : En K C σ0 H ρ σ O) : Sit K C σ0 H O ρ σ H O [] :=
  ⟨e, by simp, by simp, fun a o h _ => h, fun a h => .inr (by simpa using h)⟩
/-- what is at hand stays as it is -/
theorem Sit.kp (a : Sit K C σ0 H O ρ1 σ1 H1 O1 S1) (b : Sit K C σ0 H1 O1 ρ2 σ2 H2 O2 S2) : Kp H1 H2 S1 := fun x o e z => by
  refine b.st.fr x o e fun i m => ?_
  rcases z with z | z
  · obtain ⟨xs, e2⟩ := a.en.mu i x m
    rw [e] at e2
    cases e2
    exact absurd z xs.np
  · exact a.dj x z i m
theorem Sit.apart (a : Sit K C σ0 H O ρ1 σ1 H1 O1 S1) (b : Sit K C σ0 H1 O1 ρ2 σ2 H2 O2 S2) : ∀ x ∈ S1, x ∉ S2 ∧ ∀ i, x ∉ O2 i := fun x m => by
  have no : ¬ (x ∈ S2 ∨ ∃ i, x ∈ O2 i) := fun z => by
    rcases b.st.nw x z with z | ⟨i, z⟩
    · obtain ⟨xs, e⟩ := a.mu x m
      rw [z] at e
      cases e
    · exact a.dj x m i z
  exact ⟨fun z => no (.inl z), fun i z => no (.inr ⟨i, z⟩)⟩
theorem Sit.trans (a : Sit K C σ0 H O ρ1 σ1 H1 O1 S1) (b : Sit K C σ0 H1 O1 ρ2 σ2 H2 O2 S2) : Sit K C σ0 H O ρ2 σ2 H2 O2 (S1 ++ S2) := by
  have ap := a.apart b
  have kp := a.kp b
  refine ⟨b.en, fun x m => ?_, fun x m => ?_, fun x o e n => ?_, fun x z => ?_⟩
  · rcases List.mem_append.mp m with m | m
    · exact (ap x m).2
    · exact b.dj x m
  · rcases List.mem_append.mp m with m | m
    · obtain ⟨xs, e⟩ := a.mu x m
      exact ⟨xs, kp x _ e (.inr m)⟩
    · exact b.mu x m
  · have e1 := a.st.fr x o e n
    refine b.st.fr x o e1 fun i m => ?_
    rcases a.st.nw x (.inr ⟨i, m⟩) with z | ⟨j, z⟩
    · rw [e] at z; cases z
    · exact n j z
  · have back : (∃ i, x ∈ O1 i) → H x = none ∨ ∃ i, x ∈ O i := fun z => a.st.nw x (.inr z)
    have new : H1 x = none → H x = none ∨ ∃ i, x ∈ O i := fun z => by
      cases q : H x with
      | none => exact .inl rfl
      | some o =>
        by_cases c : ∃ i, x ∈ O i
        · exact .inr c
        · have := a.st.fr x o q fun i m => c ⟨i, m⟩
          rw [z] at this
          cases this
    rcases z with z | z
    · rcases List.mem_append.mp z with z | z
      · exact a.st.nw x (.inl z)
      · rcases b.st.nw x (.inl z) with q | q
        · exact new q
        · exact back q
    · rcases b.st.nw x (.inr z) with q | q
      · exact new q
      · exact back q
theorem Sit.sub (a : Sit K C σ0 H O ρ1 σ1 H1 O1 S1) (h : ∀ x ∈ T, x ∈ S1) : Sit K C σ0 H O ρ1 σ1 H1 O1 T :=
  ⟨a.en, fun x m => a.dj x (h x m), fun x m => a.mu x (h x m), a.st.fr, fun x z => a.st.nw x (z.elim (fun q => .inl (h x q)) .inr)⟩
theorem Sit.drop (a : Sit K C σ0 H O ρ1 σ1 H1 O1 S1) : Sit K C σ0 H O ρ1 σ1 H1 O1 [] := a.sub (by simp)
/-- from a fresh address -/
theorem kp_new {p : Addr} {o : HO} {S : List Addr} (n : H p = none) : Kp H (upd H p o) S := fun a u e _ => by
  rw [upd_ne (ne_of_none e n)]
  exact e
theorem En.kp (e : En K C σ0 H ρ σ O) (k : ∀ a o, H a = some o → (Pst o ∨ ∃ i, a ∈ O i) → H1 a = some o) : En K C σ0 H1 ρ σ O where
  len := e.len
  rep := fun i d h => by
    obtain ⟨v, h1, h2⟩ := e.rep i d h
    exact ⟨v, h1, Rp.kp d h2 fun a o q z => k a o q (z.elim .inl fun z => .inr ⟨i, z⟩)⟩
  dj := e.dj
  mu := fun i a m => by
    obtain ⟨xs, q⟩ := e.mu i a m
    exact ⟨xs, k a _ q (.inr ⟨i, m⟩)⟩
  pin := e.pin
/-- a new thing of one's own at hand -/
theorem Sit.ho {p : Addr} {m' : MuO} (a : Sit K C σ0 H O ρ1 σ1 H1 O1 S1) (n : H1 p = none) : Sit K C σ0 H O ρ1 σ1 (upd H1 p m'.ho) O1 (p :: S1) := by
  have k : ∀ x o, H1 x = some o → upd H1 p m'.ho x = some o := fun x o e => by
    rw [upd_ne (ne_of_none e n)]
    exact e
  have hp : H p = none ∨ ∃ i, p ∈ O i := by
    cases q : H p with
    | none => exact .inl rfl
    | some o =>
      by_cases c : ∃ i, p ∈ O i
      · exact .inr c
      · have := a.st.fr p o q fun i m => c ⟨i, m⟩
        rw [n] at this
        cases this
  refine ⟨a.en.kp fun x o e _ => k x o e, fun x m i => ?_, fun x m => ?_, fun x o e z => k x o (a.st.fr x o e z), fun x z => ?_⟩
  · rcases List.mem_cons.mp m with rfl | m
    · intro z
      obtain ⟨xs, e⟩ := a.en.mu i x z
      rw [n] at e
      cases e
    · exact a.dj x m i
  · rcases List.mem_cons.mp m with rfl | m
    · exact ⟨m', upd_same⟩
    · obtain ⟨xs, e⟩ := a.mu x m
      exact ⟨xs, k x _ e⟩
  · rcases z with z | z
    · rcases List.mem_cons.mp z with rfl | z
      · exact hp
      · exact a.st.nw x (.inl z)
    · exact a.st.nw x (.inr z)
theorem Sit.lst {p : Addr} {vs : List V} (a : Sit K C σ0 H O ρ1 σ1 H1 O1 S1) (n : H1 p = none) : Sit K C σ0 H O ρ1 σ1 (upd H1 p (.lst vs)) O1 (p :: S1) := a.ho (m' := .lst vs) n
/-- a new tuple -/
theorem Sit.new {p : Addr} {o : HO} (a : Sit K C σ0 H O ρ1 σ1 H1 O1 S1) (n : H1 p = none) : Sit K C σ0 H O ρ1 σ1 (upd H1 p o) O1 S1 := by
  have k : ∀ x u, H1 x = some u → upd H1 p o x = some u := fun x u e => by
    rw [upd_ne (ne_of_none e n)]
    exact e
  refine ⟨a.en.kp fun x o e _ => k x o e, a.dj, fun x m => ?_, fun x o e z => k x o (a.st.fr x o e z), a.st.nw⟩
  obtain ⟨xs, e⟩ := a.mu x m
  exact ⟨xs, k x _ e⟩
end

/-! ### what a reading by the evaluator asks -/
/-- an exception as data -/
def XRep (K : W.Frag) (H : Hp) (x : D) (cls : Value) (d : Option Addr) : Prop := False
abbrev Rl (α β : Type) := Hp → St → α → β → List Addr → Prop
def Wg {α β : Type} (rep : Rl α β) (K : W.Frag) (C : Ct) (σ0 : St) (W : WX) (σ : St) (H : Hp) (O : Nat → List Addr) (r : R α) (Q : β → Hp → Prop) : Prop := match r with
  | .ok a ρ => ∀ b H' O' S', rep H' σ a b S' → Sit K C σ0 H O ρ σ H' O' S' → Q b H'
  | .exc x ρ => ∀ cls d H' O', XRep K H' x cls d → Sit K C σ0 H O ρ σ H' O' [] → W cls d σ H'
  | .stuck => False
def tG {α β : Type} (rep : Rl α β) (K : W.Frag) (C : Ct) (σ0 : St) (W : WX) (f : Env → R α) : St → Hp → (β → Hp → Prop) → Prop := fun σ H Q =>
  ∃ ρ O, En K C σ0 H ρ σ O ∧ Wg rep K C σ0 W σ H O (f ρ) Q
def rO (K : W.Frag) : Rl Opd V := fun H σ o v S => match o with
  | .own d => Rp K H d v S
  | .sl i => S = [] ∧ σ[i]? = some (some v)
abbrev tE (K : W.Frag) (C : Ct) (σ0 : St) (W : WX) (f : Env → R Opd) : TE := tG (rO K) K C σ0 W f
def tB' (K : W.Frag) (C : Ct) (σ0 : St) (W : WX) (f : Env → R Opd) : TT := fun σ H Q => tG (rO K) K C σ0 W f σ H fun v H' => ∃ b, v = .bl b ∧ Q b H'
section
variable {K : W.Frag} {C : Ct} {σ0 : St} {W : WX} {H H1 H2 : Hp} {O O1 O2 : Nat → List Addr} {ρ ρ1 ρ2 : Env} {σ : St} {S S1 S2 T : List Addr}
/-- one thing after another -/
theorem seq {α β γ δ : Type} {rep : Rl α β} {rep' : Rl γ δ} {g : Env → R α} {k : α → Env → R γ} {QQ : δ → Hp → Prop} {Q : β → Hp → Prop} (a : Sit K C σ0 H O ρ1 σ H1 O1 S1)
    (h : Wg rep' K C σ0 W σ H O ((g ρ1).bind k) QQ)
    (hk : ∀ y ρ2, Wg rep' K C σ0 W σ H O (k y ρ2) QQ → ∀ b H2 O2 S2, rep H2 σ y b S2 → Sit K C σ0 H1 O1 ρ2 σ H2 O2 S2 → Q b H2) : tG rep K C σ0 W g σ H1 Q := by
  refine ⟨ρ1, O1, a.en, ?_⟩
  cases e : g ρ1 with
  | ok y ρ2 =>
    rw [e] at h
    exact hk y ρ2 h
  | exc x ρ2 =>
    rw [e] at h
    intro cls d H' O' hx b
    exact h cls d H' O' hx (a.trans b).drop
  | stuck =>
    rw [e] at h
    exact h
theorem Sit.get {o : Opd} {v : V} {d : D} (a : Sit K C σ0 H O ρ1 σ H1 O1 S1) (r : rO K H1 σ o v T) (e : o.get ρ1 = some d) : ∃ T', Rp K H1 d v T' := by
  cases o with
  | own x =>
    cases e
    exact ⟨T, r⟩
  | sl i =>
    obtain ⟨w, e1, r1⟩ := a.en.rep i d e
    have : some (some w) = some (some v) := e1.symm.trans r.2
    cases this
    exact ⟨_, r1⟩
theorem Sit.carry {o : Opd} {v : V} {σ' : St} (a : Sit K C σ0 H O ρ1 σ' H1 O1 S1) (b : Sit K C σ0 H1 O1 ρ2 σ' H2 O2 S2) (r : rO K H1 σ o v T) (s : ∀ x ∈ T, x ∈ S1) : rO K H2 σ o v T := by
  cases o with
  | own d => exact Rp.kp d r ((a.kp b).sub s)
  | sl i => exact r
end
end Aw

set_option Elab.async false
set_option linter.all false
set_option maxRecDepth 100000
set_option maxHeartbeats 4000000
/-! Ev3: equality of data; the operations' rules. -/
namespace Aw
open PySem L2 PySem.Spec
open PyProof.Rows hiding St

section
variable {X : Cx} {pins : List (Addr × Obj)} {σ : St} {H : Hp} {s : Shared}
theorem Rp.tupI {K : W.Frag} {ds : List D} {v : V} {S : List Addr} (h : Rp K H (.tup ds) v S) : ∃ a vs, v = .ref a ∧ SqT K H a vs ∧ Rps K H ds vs S := by
  cases h with
  | tup h r => exact ⟨_, _, rfl, .inl (.inl h), r⟩
theorem Rp.tupH {K : W.Frag} {ds : List D} {v : V} {S : List Addr} (h : Rp K H (.tup ds) v S) : ∃ a vs, v = .ref a ∧ H a = some (.tup vs) ∧ Rps K H ds vs S := by
  cases h with
  | tup h r => exact ⟨_, _, rfl, h, r⟩
theorem Rp.lstI {K : W.Frag} {f : Bool} {ds : List D} {v : V} {S : List Addr} (h : Rp K H (.lst f ds) v S) : ∃ a vs T, v = .ref a ∧ SqL K H a vs ∧ Rps K H ds vs T ∧ ∀ x ∈ T, x ∈ S := by
  cases h with
  | frz h r => exact ⟨_, _, _, rfl, h.l, r, by simp⟩
  | lst h r n => exact ⟨_, _, _, rfl, .inl (.inl h), r, fun x m => List.mem_cons_of_mem _ m⟩
/-! ### one value, two readings -/
mutual
theorem deq_one (I : Inv X pins σ H s) : ∀ (x y : D) {v : V} {S T : List Addr}, Rp X.K H x v S → Rp X.K H y v T → x.plain = true → y.plain = true → deq x y = true
  | .non, y, _, _, _, h, g, px, py => by cases h; cases g; rfl
  | .bl b, y, _, _, _, h, g, px, py => by cases h; cases g; simp [deq]
  | .int b, y, _, _, _, h, g, px, py => by cases h; cases g; simp [deq]
  | .str b, y, _, _, _, h, g, px, py => by cases h; cases g; simp [deq]
  | .tup xs, y, _, _, _, h, g, px, py => by
    obtain ⟨a, vs, rfl, q, r⟩ := h.tupI
    cases g with
    | tup h' r' =>
      have e := I.tuple_inj q (.inl (.inl h'))
      subst e
      exact deqs_one I xs _ r r' (by simpa [D.plain] using px) (by simpa [D.plain] using py)
    | frz h' r' =>
      obtain ⟨its, _, ⟨o, e1, e2, _⟩, _⟩ := I.tuple q
      obtain ⟨its', _, ⟨o', n', e1', e2', _⟩, _⟩ := I.list h'.l
      rw [e1] at e1'; cases e1'
      rw [e2] at e2'; exact absurd e2' (by simp)
    | lst h' r' n =>
      obtain ⟨its, _, ⟨o, e1, e2, _⟩, _⟩ := I.tuple q
      obtain ⟨its', _, ⟨o', n', e1', e2', _⟩, _⟩ := I.list (xs := _) (.inl (.inl h'))
      rw [e1] at e1'; cases e1'
      rw [e2] at e2'; exact absurd e2' (by simp)
    | dct => simp [D.plain] at py
    | dcf => simp [D.plain] at py
  | .lst f xs, y, _, _, _, h, g, px, py => by
    obtain ⟨a, vs, T, rfl, q, r, _⟩ := h.lstI
    cases y with
    | tup ys =>
      obtain ⟨b, ws, e, q', r'⟩ := g.tupI
      cases e
      obtain ⟨its, _, ⟨o, n, e1, e2, _⟩, _⟩ := I.list q
      obtain ⟨its', _, ⟨o', e1', e2', _⟩, _⟩ := I.tuple q'
      rw [e1] at e1'; cases e1'
      rw [e2] at e2'; exact absurd e2' (by simp)
    | lst f' ys =>
      obtain ⟨b, ws, T', e, q', r', _⟩ := g.lstI
      cases e
      have e := I.list_inj q q'
      subst e
      exact deqs_one I xs _ r r' (by simpa [D.plain] using px) (by simpa [D.plain] using py)
    | dct => simp [D.plain] at py
    | _ => cases g
  | .dct _ _ _ _, _, _, _, _, _, _, px, _ => by simp [D.plain] at px
  | .set _ _, _, _, _, _, h, _, _, _ => nomatch h
  | .obj _ _, _, _, _, _, h, _, _, _ => nomatch h
theorem deqs_one (I : Inv X pins σ H s) : ∀ (xs ys : List D) {vs : List V} {S T : List Addr}, Rps X.K H xs vs S → Rps X.K H ys vs T → plains xs = true → plains ys = true → deqs xs ys = true
  | [], ys, _, _, _, h, g, px, py => by cases h; cases g; rfl
  | x :: xs, ys, _, _, _, h, g, px, py => by
    cases h with
    | cons h r _ =>
      cases g with
      | cons g r' _ => 
        have p1 : x.plain = true ∧ plains xs = true := by simpa [plains] using px
        have p2 := Bool.and_eq_true_iff.mp (show (D.plain _ && plains _) = true from py)
        simp only [deqs, deq_one I x _ h g p1.1 p2.1, deqs_one I xs _ r r' p1.2 p2.2, Bool.and_self]
end
abbrev pairD (xs ys : List D) (j : Nat) : Bool := deq (xs.getD j .non) (ys.getD j .non)
theorem deqs_all : ∀ xs ys : List D, ((List.range (min xs.length ys.length)).all (pairD xs ys) && xs.length == ys.length) = deqs xs ys
  | [], [] => rfl
  | [], _ :: _ => by simp [deqs]
  | _ :: _, [] => by simp [deqs]
  | x :: xs, y :: ys => by
    have ih := deqs_all xs ys
    rw [deqs, ← ih, show min (x :: xs).length (y :: ys).length = min xs.length ys.length + 1 by simp only [List.length_cons]; omega,
      show ((x :: xs).length == (y :: ys).length) = (xs.length == ys.length) by simp, List.range_succ_eq_map, List.all_cons, List.all_map, Bool.and_assoc]
    rfl
theorem deqs_len {xs ys : List D} (h : xs.length ≠ ys.length) : deqs xs ys = false := by
  rw [← deqs_all xs ys]
  simp [h]
theorem deqs_eqlen {xs ys : List D} (h : xs.length = ys.length) : (List.range xs.length).all (pairD xs ys) = deqs xs ys := by
  have e := deqs_all xs ys
  rw [← h, Nat.min_self] at e
  simpa using e
theorem cLine_in {u a b : Nat} (h : u + min (a + 1) (b + 1) < cLine) : u + 1 + min a b < cLine := by omega
theorem cLine_at {u a b : Nat} (h : u + min a b < cLine) : u < cLine := by omega
theorem isTupleI (I : Inv X pins σ H s) {a : Addr} {vs : List V} (q : SqT X.K H a vs) : ∃ us : List Value, Vals vs us ∧ s.heap.IsTuple a us.toArray := by
  obtain ⟨us, r, ⟨o, e1, e2, n, e3⟩, _⟩ := I.tuple q
  exact ⟨us, r, o, e1, e2, n, e3⟩
theorem isListI (I : Inv X pins σ H s) {a : Addr} {vs : List V} (q : SqL X.K H a vs) : ∃ us : List Value, Vals vs us ∧ s.heap.IsList a us.toArray := by
  obtain ⟨us, r, p, _⟩ := I.list q
  exact ⟨us, r, p.isList⟩
mutual
/-- the two things as operands of ==, of == with identity ahead -/
theorem rc_at (I : Inv X pins σ H s) : ∀ (x y : D) (A : Around) {v w : V} {a b : Value} {S T : List Addr}, Rp X.K H x v S → Rp X.K H y w T → RelV v a → RelV w b → A.units + min x.dep y.dep < cLine → x.plain = true → y.plain = true →
    SeqAt.RcAt A s a b (deq x y)
  | .non, y, A, _, _, _, _, _, _, h, g, ra, rb, u, px, py => by
    cases h; cases ra
    cases y with
    | tup ys => obtain ⟨_, _, rfl, q, _⟩ := g.tupI; cases rb; obtain ⟨_, _, t⟩ := isTupleI I q; exact SeqAt.RcAt.none_tuple t (cLine_at u)
    | lst f ys => obtain ⟨_, _, _, rfl, q, _⟩ := g.lstI; cases rb; obtain ⟨_, _, t⟩ := isListI I q; exact SeqAt.RcAt.none_list t (cLine_at u)
    | non => cases g; cases rb; simp only [deq]; exact SeqAt.RcAt.none_none
    | bl z' => cases g; cases rb; simp only [deq]; exact SeqAt.RcAt.none_bool _
    | int z' => cases g; obtain ⟨_, rfl⟩ := rb; simp only [deq]; exact SeqAt.RcAt.none_int _ _
    | str z' => cases g; obtain ⟨_, rfl⟩ := rb; simp only [deq]; exact SeqAt.RcAt.none_str _ _
    | dct => simp [D.plain] at py
    | _ => cases g
  | .bl z, y, A, _, _, _, _, _, _, h, g, ra, rb, u, px, py => by
    cases h; cases ra
    cases y with
    | tup ys => obtain ⟨_, _, rfl, q, _⟩ := g.tupI; cases rb; obtain ⟨_, _, t⟩ := isTupleI I q; exact SeqAt.RcAt.bool_tuple _ t (cLine_at u)
    | lst f ys => obtain ⟨_, _, _, rfl, q, _⟩ := g.lstI; cases rb; obtain ⟨_, _, t⟩ := isListI I q; exact SeqAt.RcAt.bool_list _ t (cLine_at u)
    | non => cases g; cases rb; simp only [deq]; exact SeqAt.RcAt.bool_none _
    | bl z' => cases g; cases rb; simp only [deq]; exact SeqAt.RcAt.bool_bool _ _
    | int z' => cases g; obtain ⟨_, rfl⟩ := rb; simp only [deq]; exact SeqAt.RcAt.bool_int _ _ _
    | str z' => cases g; obtain ⟨_, rfl⟩ := rb; simp only [deq]; exact SeqAt.RcAt.bool_str _ _ _
    | dct => simp [D.plain] at py
    | _ => cases g
  | .int z, y, A, _, _, _, _, _, _, h, g, ra, rb, u, px, py => by
    cases h; obtain ⟨_, rfl⟩ := ra
    cases y with
    | tup ys => obtain ⟨_, _, rfl, q, _⟩ := g.tupI; cases rb; obtain ⟨_, _, t⟩ := isTupleI I q; exact SeqAt.RcAt.int_tuple _ _ t (cLine_at u)
    | lst f ys => obtain ⟨_, _, _, rfl, q, _⟩ := g.lstI; cases rb; obtain ⟨_, _, t⟩ := isListI I q; exact SeqAt.RcAt.int_list _ _ t (cLine_at u)
    | non => cases g; cases rb; simp only [deq]; exact SeqAt.RcAt.int_none _ _
    | bl z' => cases g; cases rb; simp only [deq]; exact SeqAt.RcAt.int_bool _ _ _
    | int z' => cases g; obtain ⟨_, rfl⟩ := rb; simp only [deq]; exact SeqAt.RcAt.int_int _ _ _ _
    | str z' => cases g; obtain ⟨_, rfl⟩ := rb; simp only [deq]; exact SeqAt.RcAt.int_str _ _ _ _
    | dct => simp [D.plain] at py
    | _ => cases g
  | .str z, y, A, _, _, _, _, _, _, h, g, ra, rb, u, px, py => by
    cases h; obtain ⟨_, rfl⟩ := ra
    cases y with
    | tup ys => obtain ⟨_, _, rfl, q, _⟩ := g.tupI; cases rb; obtain ⟨_, _, t⟩ := isTupleI I q; exact SeqAt.RcAt.str_tuple _ _ t (cLine_at u)
    | lst f ys => obtain ⟨_, _, _, rfl, q, _⟩ := g.lstI; cases rb; obtain ⟨_, _, t⟩ := isListI I q; exact SeqAt.RcAt.str_list _ _ t (cLine_at u)
    | non => cases g; cases rb; simp only [deq]; exact SeqAt.RcAt.str_none _ _
    | bl z' => cases g; cases rb; simp only [deq]; exact SeqAt.RcAt.str_bool _ _ _
    | int z' => cases g; obtain ⟨_, rfl⟩ := rb; simp only [deq]; exact SeqAt.RcAt.str_int _ _ _ _
    | str z' => cases g; obtain ⟨_, rfl⟩ := rb; simp only [deq]; exact SeqAt.RcAt.str_str _ _ _ _
    | dct => simp [D.plain] at py
    | _ => cases g
  | .tup xs, y, A, _, _, _, _, _, _, h, g, ra, rb, u, px, py => by
    obtain ⟨c, vs, rfl, q, r⟩ := h.tupI
    cases ra
    obtain ⟨us, rv, t⟩ := isTupleI I q
    cases y with
    | non => cases g; cases rb; exact SeqAt.RcAt.tuple_none t (cLine_at u)
    | bl z => cases g; cases rb; exact SeqAt.RcAt.tuple_bool z t (cLine_at u)
    | int z => cases g; obtain ⟨_, rfl⟩ := rb; exact SeqAt.RcAt.tuple_int z _ t (cLine_at u)
    | str z => cases g; obtain ⟨_, rfl⟩ := rb; exact SeqAt.RcAt.tuple_str z _ t (cLine_at u)
    | lst f ys => obtain ⟨_, _, _, rfl, q', _⟩ := g.lstI; cases rb; obtain ⟨_, _, t'⟩ := isListI I q'; exact SeqAt.RcAt.tuple_list t t' (cLine_at u)
    | tup ys =>
      obtain ⟨c', vs', rfl, q', r'⟩ := g.tupI
      cases rb
      obtain ⟨us', rv', t'⟩ := isTupleI I q'
      have n1 : us.toArray.size = xs.length := by rw [List.size_toArray, r.length, rv.length]
      have n2 : us'.toArray.size = ys.length := by rw [List.size_toArray, r'.length, rv'.length]
      show SeqAt.RcAt A s (.ref c) (.ref c') (deqs xs ys)
      rw [← deqs_all xs ys, ← n1, ← n2]
      refine SeqAt.RcAt.tuples t t' (cLine_at u) fun j j1 j2 => ?_
      have z := eq_ats I xs ys A.in1 r r' rv rv' (cLine_in u) (by simpa [D.plain] using px) (by simpa [D.plain] using py) j (by simpa using j1) (by simpa using j2)
      simpa using z
    | dct => simp [D.plain] at py
    | _ => cases g
  | .lst f xs, y, A, _, _, _, _, _, _, h, g, ra, rb, u, px, py => by
    obtain ⟨c, vs, _, rfl, q, r, _⟩ := h.lstI
    cases ra
    obtain ⟨us, rv, t⟩ := isListI I q
    cases y with
    | non => cases g; cases rb; exact SeqAt.RcAt.list_none t (cLine_at u)
    | bl z => cases g; cases rb; exact SeqAt.RcAt.list_bool z t (cLine_at u)
    | int z => cases g; obtain ⟨_, rfl⟩ := rb; exact SeqAt.RcAt.list_int z _ t (cLine_at u)
    | str z => cases g; obtain ⟨_, rfl⟩ := rb; exact SeqAt.RcAt.list_str z _ t (cLine_at u)
    | tup ys => obtain ⟨_, _, rfl, q', _⟩ := g.tupI; cases rb; obtain ⟨_, _, t'⟩ := isTupleI I q'; exact SeqAt.RcAt.list_tuple t t' (cLine_at u)
    | lst f ys =>
      obtain ⟨c', vs', _, rfl, q', r', _⟩ := g.lstI
      cases rb
      obtain ⟨us', rv', t'⟩ := isListI I q'
      have n1 : us.toArray.size = xs.length := by rw [List.size_toArray, r.length, rv.length]
      have n2 : us'.toArray.size = ys.length := by rw [List.size_toArray, r'.length, rv'.length]
      show SeqAt.RcAt A s (.ref c) (.ref c') (deqs xs ys)
      by_cases hz : us.toArray.size = us'.toArray.size
      · rw [← deqs_eqlen (n1.symm.trans (hz.trans n2)), ← n1]
        refine SeqAt.RcAt.lists t t' hz (cLine_at u) fun j j1 j2 => ?_
        have z := eq_ats I xs ys A.in1 r r' rv rv' (cLine_in u) (by simpa [D.plain] using px) (by simpa [D.plain] using py) j (by simpa using j1) (by simpa using j2)
        simpa using z
      · rw [deqs_len (fun e => hz (n1.trans (e.trans n2.symm)))]
        exact SeqAt.RcAt.lists_lengths t t' (by simpa using hz) (cLine_at u)
    | dct => simp [D.plain] at py
    | _ => cases g
  | .dct _ _ _ _, _, _, _, _, _, _, _, _, _, _, _, _, _, px, _ => by simp [D.plain] at px
  | .set _ _, _, _, _, _, _, _, _, _, h, _, _, _, _, _, _ => nomatch h
  | .obj _ _, _, _, _, _, _, _, _, _, h, _, _, _, _, _, _ => nomatch h
theorem eq_at (I : Inv X pins σ H s) : ∀ (x y : D) (A : Around) {v w : V} {a b : Value} {S T : List Addr}, Rp X.K H x v S → Rp X.K H y w T → RelV v a → RelV w b → A.units + min x.dep y.dep < cLine → x.plain = true → y.plain = true →
    SeqAt.EqAt A s a b (deq x y)
  | .non, y, A, _, _, _, _, _, _, h, g, ra, rb, u, px, py => by
    cases h; cases ra
    cases y with
    | tup ys => obtain ⟨_, _, rfl, q, _⟩ := g.tupI; cases rb; obtain ⟨_, _, t⟩ := isTupleI I q; exact SeqAt.EqAt.none_tuple t (cLine_at u)
    | lst f ys => obtain ⟨_, _, _, rfl, q, _⟩ := g.lstI; cases rb; obtain ⟨_, _, t⟩ := isListI I q; exact SeqAt.EqAt.none_list t (cLine_at u)
    | non => cases g; cases rb; simp only [deq]; exact SeqAt.EqAt.same _
    | bl z' => cases g; cases rb; simp only [deq]; exact SeqAt.EqAt.none_bool _
    | int z' => cases g; obtain ⟨_, rfl⟩ := rb; simp only [deq]; exact SeqAt.EqAt.none_int _ _
    | str z' => cases g; obtain ⟨_, rfl⟩ := rb; simp only [deq]; exact SeqAt.EqAt.none_str _ _
    | dct => simp [D.plain] at py
    | _ => cases g
  | .bl z, y, A, _, _, _, _, _, _, h, g, ra, rb, u, px, py => by
    cases h; cases ra
    cases y with
    | tup ys => obtain ⟨_, _, rfl, q, _⟩ := g.tupI; cases rb; obtain ⟨_, _, t⟩ := isTupleI I q; exact SeqAt.EqAt.bool_tuple _ t (cLine_at u)
    | lst f ys => obtain ⟨_, _, _, rfl, q, _⟩ := g.lstI; cases rb; obtain ⟨_, _, t⟩ := isListI I q; exact SeqAt.EqAt.bool_list _ t (cLine_at u)
    | non => cases g; cases rb; simp only [deq]; exact SeqAt.EqAt.bool_none _
    | bl z' => cases g; cases rb; simp only [deq]; exact SeqAt.EqAt.bool_bool _ _
    | int z' => cases g; obtain ⟨_, rfl⟩ := rb; simp only [deq]; exact SeqAt.EqAt.bool_int _ _ _
    | str z' => cases g; obtain ⟨_, rfl⟩ := rb; simp only [deq]; exact SeqAt.EqAt.bool_str _ _ _
    | dct => simp [D.plain] at py
    | _ => cases g
  | .int z, y, A, _, _, _, _, _, _, h, g, ra, rb, u, px, py => by
    cases h; obtain ⟨_, rfl⟩ := ra
    cases y with
    | tup ys => obtain ⟨_, _, rfl, q, _⟩ := g.tupI; cases rb; obtain ⟨_, _, t⟩ := isTupleI I q; exact SeqAt.EqAt.int_tuple _ _ t (cLine_at u)
    | lst f ys => obtain ⟨_, _, _, rfl, q, _⟩ := g.lstI; cases rb; obtain ⟨_, _, t⟩ := isListI I q; exact SeqAt.EqAt.int_list _ _ t (cLine_at u)
    | non => cases g; cases rb; simp only [deq]; exact SeqAt.EqAt.int_none _ _
    | bl z' => cases g; cases rb; simp only [deq]; exact SeqAt.EqAt.int_bool _ _ _
    | int z' => cases g; obtain ⟨_, rfl⟩ := rb; simp only [deq]; exact SeqAt.EqAt.int_int _ _ _ _
    | str z' => cases g; obtain ⟨_, rfl⟩ := rb; simp only [deq]; exact SeqAt.EqAt.int_str _ _ _ _
    | dct => simp [D.plain] at py
    | _ => cases g
  | .str z, y, A, _, _, _, _, _, _, h, g, ra, rb, u, px, py => by
    cases h; obtain ⟨_, rfl⟩ := ra
    cases y with
    | tup ys => obtain ⟨_, _, rfl, q, _⟩ := g.tupI; cases rb; obtain ⟨_, _, t⟩ := isTupleI I q; exact SeqAt.EqAt.str_tuple _ _ t (cLine_at u)
    | lst f ys => obtain ⟨_, _, _, rfl, q, _⟩ := g.lstI; cases rb; obtain ⟨_, _, t⟩ := isListI I q; exact SeqAt.EqAt.str_list _ _ t (cLine_at u)
    | non => cases g; cases rb; simp only [deq]; exact SeqAt.EqAt.str_none _ _
    | bl z' => cases g; cases rb; simp only [deq]; exact SeqAt.EqAt.str_bool _ _ _
    | int z' => cases g; obtain ⟨_, rfl⟩ := rb; simp only [deq]; exact SeqAt.EqAt.str_int _ _ _ _
    | str z' => cases g; obtain ⟨_, rfl⟩ := rb; simp only [deq]; exact SeqAt.EqAt.str_str _ _ _ _
    | dct => simp [D.plain] at py
    | _ => cases g
  | .tup xs, y, A, _, _, _, _, _, _, h, g, ra, rb, u, px, py => by
    obtain ⟨c, vs, rfl, q, r⟩ := h.tupI
    cases ra
    obtain ⟨us, rv, t⟩ := isTupleI I q
    cases y with
    | non => cases g; cases rb; exact SeqAt.EqAt.tuple_none t (cLine_at u)
    | bl z => cases g; cases rb; exact SeqAt.EqAt.tuple_bool z t (cLine_at u)
    | int z => cases g; obtain ⟨_, rfl⟩ := rb; exact SeqAt.EqAt.tuple_int z _ t (cLine_at u)
    | str z => cases g; obtain ⟨_, rfl⟩ := rb; exact SeqAt.EqAt.tuple_str z _ t (cLine_at u)
    | lst f ys => obtain ⟨_, _, _, rfl, q', _⟩ := g.lstI; cases rb; obtain ⟨_, _, t'⟩ := isListI I q'; exact SeqAt.EqAt.tuple_list t t' (cLine_at u)
    | tup ys =>
      obtain ⟨c', vs', rfl, q', r'⟩ := g.tupI
      cases rb
      by_cases hc : c = c'
      · subst hc
        rw [deq_one I (.tup xs) (.tup ys) h g px py]
        exact SeqAt.EqAt.same _
      · obtain ⟨us', rv', t'⟩ := isTupleI I q'
        have n1 : us.toArray.size = xs.length := by rw [List.size_toArray, r.length, rv.length]
        have n2 : us'.toArray.size = ys.length := by rw [List.size_toArray, r'.length, rv'.length]
        show SeqAt.EqAt A s (.ref c) (.ref c') (deqs xs ys)
        rw [← deqs_all xs ys, ← n1, ← n2]
        refine SeqAt.EqAt.of_refs hc (SeqAt.RcAt.tuples t t' (cLine_at u) fun j j1 j2 => ?_)
        have z := eq_ats I xs ys A.in1 r r' rv rv' (cLine_in u) (by simpa [D.plain] using px) (by simpa [D.plain] using py) j (by simpa using j1) (by simpa using j2)
        simpa using z
    | dct => simp [D.plain] at py
    | _ => cases g
  | .lst f xs, y, A, _, _, _, _, _, _, h, g, ra, rb, u, px, py => by
    obtain ⟨c, vs, _, rfl, q, r, _⟩ := h.lstI
    cases ra
    obtain ⟨us, rv, t⟩ := isListI I q
    cases y with
    | non => cases g; cases rb; exact SeqAt.EqAt.list_none t (cLine_at u)
    | bl z => cases g; cases rb; exact SeqAt.EqAt.list_bool z t (cLine_at u)
    | int z => cases g; obtain ⟨_, rfl⟩ := rb; exact SeqAt.EqAt.list_int z _ t (cLine_at u)
    | str z => cases g; obtain ⟨_, rfl⟩ := rb; exact SeqAt.EqAt.list_str z _ t (cLine_at u)
    | tup ys => obtain ⟨_, _, rfl, q', _⟩ := g.tupI; cases rb; obtain ⟨_, _, t'⟩ := isTupleI I q'; exact SeqAt.EqAt.list_tuple t t' (cLine_at u)
    | lst f' ys =>
      obtain ⟨c', vs', _, rfl, q', r', _⟩ := g.lstI
      cases rb
      by_cases hc : c = c'
      · subst hc
        rw [deq_one I (.lst f xs) (.lst f' ys) h g px py]
        exact SeqAt.EqAt.same _
      · obtain ⟨us', rv', t'⟩ := isListI I q'
        have n1 : us.toArray.size = xs.length := by rw [List.size_toArray, r.length, rv.length]
        have n2 : us'.toArray.size = ys.length := by rw [List.size_toArray, r'.length, rv'.length]
        show SeqAt.EqAt A s (.ref c) (.ref c') (deqs xs ys)
        by_cases hz : us.toArray.size = us'.toArray.size
        · rw [← deqs_eqlen (n1.symm.trans (hz.trans n2)), ← n1]
          refine SeqAt.EqAt.of_refs hc (SeqAt.RcAt.lists t t' hz (cLine_at u) fun j j1 j2 => ?_)
          have z := eq_ats I xs ys A.in1 r r' rv rv' (cLine_in u) (by simpa [D.plain] using px) (by simpa [D.plain] using py) j (by simpa using j1) (by simpa using j2)
          simpa using z
        · rw [deqs_len (fun e => hz (n1.trans (e.trans n2.symm)))]
          exact SeqAt.EqAt.of_refs hc (SeqAt.RcAt.lists_lengths t t' (by simpa using hz) (cLine_at u))
    | dct => simp [D.plain] at py
    | _ => cases g
  | .dct _ _ _ _, _, _, _, _, _, _, _, _, _, _, _, _, _, px, _ => by simp [D.plain] at px
  | .set _ _, _, _, _, _, _, _, _, _, h, _, _, _, _, _, _ => nomatch h
  | .obj _ _, _, _, _, _, _, _, _, _, h, _, _, _, _, _, _ => nomatch h
theorem eq_ats (I : Inv X pins σ H s) : ∀ (xs ys : List D) (A : Around) {vs ws : List V} {us zs : List Value} {S T : List Addr}, Rps X.K H xs vs S → Rps X.K H ys ws T → Vals vs us → Vals ws zs → A.units + min (deps xs) (deps ys) < cLine → plains xs = true → plains ys = true →
    ∀ j (h1 : j < us.length) (h2 : j < zs.length), SeqAt.EqAt A s us[j] zs[j] (pairD xs ys j)
  | [], _, _, _, _, _, _, _, _, r, _, rv, _, _, _, _, j, h1, _ => by cases r; cases rv; exact absurd h1 (Nat.not_lt_zero _)
  | _ :: _, [], _, _, _, _, _, _, _, _, r', _, rv', _, _, _, j, _, h2 => by cases r'; cases rv'; exact absurd h2 (Nat.not_lt_zero _)
  | x :: xs, y :: ys, A, _, _, _, _, _, _, r, r', rv, rv', u, px, py, j, h1, h2 => by
    have p1 : x.plain = true ∧ plains xs = true := by simpa [plains] using px
    have p2 : y.plain = true ∧ plains ys = true := by simpa [plains] using py
    cases r with
    | cons h r _ =>
      cases r' with
      | cons h' r' _ =>
        cases rv with
        | cons a rv =>
          cases rv' with
          | cons a' rv' =>
            simp only [deps] at u
            cases j with
            | zero => exact eq_at I x y A h h' a a' (by omega) p1.1 p2.1
            | succ j => exact eq_ats I xs ys A r r' rv rv' (by omega) p1.2 p2.2 j (Nat.lt_of_succ_lt_succ h1) (Nat.lt_of_succ_lt_succ h2)
end
/-- as operands of != -/
theorem ne_at (I : Inv X pins σ H s) : ∀ (x y : D) (A : Around) {v w : V} {a b : Value} {S T : List Addr}, Rp X.K H x v S → Rp X.K H y w T → RelV v a → RelV w b → A.units + min x.dep y.dep < cLine → x.plain = true → y.plain = true →
    SeqAt.RcNeAt A s a b (!deq x y)
  | .non, y, A, _, _, _, _, _, _, h, g, ra, rb, u, px, py => by
    cases h; cases ra
    cases y with
    | tup ys => obtain ⟨_, _, rfl, q, _⟩ := g.tupI; cases rb; obtain ⟨_, _, t⟩ := isTupleI I q; exact SeqAt.RcNeAt.none_tuple t (cLine_at u)
    | lst f ys => obtain ⟨_, _, _, rfl, q, _⟩ := g.lstI; cases rb; obtain ⟨_, _, t⟩ := isListI I q; exact SeqAt.RcNeAt.none_list t (cLine_at u)
    | non => cases g; cases rb; simp only [deq]; exact SeqAt.RcNeAt.none_none
    | bl z' => cases g; cases rb; simp only [deq]; exact SeqAt.RcNeAt.none_bool _
    | int z' => cases g; obtain ⟨_, rfl⟩ := rb; simp only [deq]; exact SeqAt.RcNeAt.none_int _ _
    | str z' => cases g; obtain ⟨_, rfl⟩ := rb; simp only [deq]; exact SeqAt.RcNeAt.none_str _ _
    | dct => simp [D.plain] at py
    | _ => cases g
  | .bl z, y, A, _, _, _, _, _, _, h, g, ra, rb, u, px, py => by
    cases h; cases ra
    cases y with
    | tup ys => obtain ⟨_, _, rfl, q, _⟩ := g.tupI; cases rb; obtain ⟨_, _, t⟩ := isTupleI I q; exact SeqAt.RcNeAt.bool_tuple _ t (cLine_at u)
    | lst f ys => obtain ⟨_, _, _, rfl, q, _⟩ := g.lstI; cases rb; obtain ⟨_, _, t⟩ := isListI I q; exact SeqAt.RcNeAt.bool_list _ t (cLine_at u)
    | non => cases g; cases rb; simp only [deq]; exact SeqAt.RcNeAt.bool_none _
    | bl z' => cases g; cases rb; simp only [deq]; exact SeqAt.RcNeAt.bool_bool _ _
    | int z' => cases g; obtain ⟨_, rfl⟩ := rb; simp only [deq]; exact SeqAt.RcNeAt.bool_int _ _ _
    | str z' => cases g; obtain ⟨_, rfl⟩ := rb; simp only [deq]; exact SeqAt.RcNeAt.bool_str _ _ _
    | dct => simp [D.plain] at py
    | _ => cases g
  | .int z, y, A, _, _, _, _, _, _, h, g, ra, rb, u, px, py => by
    cases h; obtain ⟨_, rfl⟩ := ra
    cases y with
    | tup ys => obtain ⟨_, _, rfl, q, _⟩ := g.tupI; cases rb; obtain ⟨_, _, t⟩ := isTupleI I q; exact SeqAt.RcNeAt.int_tuple _ _ t (cLine_at u)
    | lst f ys => obtain ⟨_, _, _, rfl, q, _⟩ := g.lstI; cases rb; obtain ⟨_, _, t⟩ := isListI I q; exact SeqAt.RcNeAt.int_list _ _ t (cLine_at u)
    | non => cases g; cases rb; simp only [deq]; exact SeqAt.RcNeAt.int_none _ _
    | bl z' => cases g; cases rb; simp only [deq]; exact SeqAt.RcNeAt.int_bool _ _ _
    | int z' => cases g; obtain ⟨_, rfl⟩ := rb; simp only [deq]; exact SeqAt.RcNeAt.int_int _ _ _ _
    | str z' => cases g; obtain ⟨_, rfl⟩ := rb; simp only [deq]; exact SeqAt.RcNeAt.int_str _ _ _ _
    | dct => simp [D.plain] at py
    | _ => cases g
  | .str z, y, A, _, _, _, _, _, _, h, g, ra, rb, u, px, py => by
    cases h; obtain ⟨_, rfl⟩ := ra
    cases y with
    | tup ys => obtain ⟨_, _, rfl, q, _⟩ := g.tupI; cases rb; obtain ⟨_, _, t⟩ := isTupleI I q; exact SeqAt.RcNeAt.str_tuple _ _ t (cLine_at u)
    | lst f ys => obtain ⟨_, _, _, rfl, q, _⟩ := g.lstI; cases rb; obtain ⟨_, _, t⟩ := isListI I q; exact SeqAt.RcNeAt.str_list _ _ t (cLine_at u)
    | non => cases g; cases rb; simp only [deq]; exact SeqAt.RcNeAt.str_none _ _
    | bl z' => cases g; cases rb; simp only [deq]; exact SeqAt.RcNeAt.str_bool _ _ _
    | int z' => cases g; obtain ⟨_, rfl⟩ := rb; simp only [deq]; exact SeqAt.RcNeAt.str_int _ _ _ _
    | str z' => cases g; obtain ⟨_, rfl⟩ := rb; simp only [deq]; exact SeqAt.RcNeAt.str_str _ _ _ _
    | dct => simp [D.plain] at py
    | _ => cases g
  | .tup xs, y, A, _, _, _, _, _, _, h, g, ra, rb, u, px, py => by
    obtain ⟨c, vs, rfl, q, r⟩ := h.tupI
    cases ra
    obtain ⟨us, rv, t⟩ := isTupleI I q
    cases y with
    | non => cases g; cases rb; exact SeqAt.RcNeAt.tuple_none t (cLine_at u)
    | bl z => cases g; cases rb; exact SeqAt.RcNeAt.tuple_bool z t (cLine_at u)
    | int z => cases g; obtain ⟨_, rfl⟩ := rb; exact SeqAt.RcNeAt.tuple_int z _ t (cLine_at u)
    | str z => cases g; obtain ⟨_, rfl⟩ := rb; exact SeqAt.RcNeAt.tuple_str z _ t (cLine_at u)
    | lst f ys => obtain ⟨_, _, _, rfl, q', _⟩ := g.lstI; cases rb; obtain ⟨_, _, t'⟩ := isListI I q'; exact SeqAt.RcNeAt.tuple_list t t' (cLine_at u)
    | tup ys =>
      obtain ⟨c', vs', rfl, q', r'⟩ := g.tupI
      cases rb
      obtain ⟨us', rv', t'⟩ := isTupleI I q'
      have n1 : us.toArray.size = xs.length := by rw [List.size_toArray, r.length, rv.length]
      have n2 : us'.toArray.size = ys.length := by rw [List.size_toArray, r'.length, rv'.length]
      show SeqAt.RcNeAt A s (.ref c) (.ref c') (!deqs xs ys)
      rw [← deqs_all xs ys, ← n1, ← n2]
      refine SeqAt.RcNeAt.tuples t t' (cLine_at u) fun j j1 j2 => ?_
      have z := eq_ats I xs ys A.in1 r r' rv rv' (cLine_in u) (by simpa [D.plain] using px) (by simpa [D.plain] using py) j (by simpa using j1) (by simpa using j2)
      simpa using z
    | dct => simp [D.plain] at py
    | _ => cases g
  | .lst f xs, y, A, _, _, _, _, _, _, h, g, ra, rb, u, px, py => by
    obtain ⟨c, vs, _, rfl, q, r, _⟩ := h.lstI
    cases ra
    obtain ⟨us, rv, t⟩ := isListI I q
    cases y with
    | non => cases g; cases rb; exact SeqAt.RcNeAt.list_none t (cLine_at u)
    | bl z => cases g; cases rb; exact SeqAt.RcNeAt.list_bool z t (cLine_at u)
    | int z => cases g; obtain ⟨_, rfl⟩ := rb; exact SeqAt.RcNeAt.list_int z _ t (cLine_at u)
    | str z => cases g; obtain ⟨_, rfl⟩ := rb; exact SeqAt.RcNeAt.list_str z _ t (cLine_at u)
    | tup ys => obtain ⟨_, _, rfl, q', _⟩ := g.tupI; cases rb; obtain ⟨_, _, t'⟩ := isTupleI I q'; exact SeqAt.RcNeAt.list_tuple t t' (cLine_at u)
    | lst f ys =>
      obtain ⟨c', vs', _, rfl, q', r', _⟩ := g.lstI
      cases rb
      obtain ⟨us', rv', t'⟩ := isListI I q'
      have n1 : us.toArray.size = xs.length := by rw [List.size_toArray, r.length, rv.length]
      have n2 : us'.toArray.size = ys.length := by rw [List.size_toArray, r'.length, rv'.length]
      show SeqAt.RcNeAt A s (.ref c) (.ref c') (!deqs xs ys)
      by_cases hz : us.toArray.size = us'.toArray.size
      · rw [← deqs_eqlen (n1.symm.trans (hz.trans n2)), ← n1]
        refine SeqAt.RcNeAt.lists t t' hz (cLine_at u) fun j j1 j2 => ?_
        have z := eq_ats I xs ys A.in1 r r' rv rv' (cLine_in u) (by simpa [D.plain] using px) (by simpa [D.plain] using py) j (by simpa using j1) (by simpa using j2)
        simpa using z
      · rw [deqs_len (fun e => hz (n1.trans (e.trans n2.symm)))]
        exact SeqAt.RcNeAt.lists_lengths t t' (by simpa using hz) (cLine_at u)
    | dct => simp [D.plain] at py
    | _ => cases g
  | .dct _ _ _ _, _, _, _, _, _, _, _, _, _, _, _, _, _, px, _ => by simp [D.plain] at px
  | .set _ _, _, _, _, _, _, _, _, _, h, _, _, _, _, _, _ => nomatch h
  | .obj _ _, _, _, _, _, _, _, _, _, h, _, _, _, _, _, _ => nomatch h
end
end Aw

set_option Elab.async false
set_option linter.all false
set_option maxRecDepth 100000
set_option maxHeartbeats 4000000
/-! Ev4: the operations' rules over data. -/
namespace Aw
open PySem L2 PySem.Spec
open PyProof.Rows hiding St

/-- a value that has come: what was there is as it was -/
structure New (K : W.Frag) (H : Hp) (z : D) (v : V) (H' : Hp) (S : List Addr) : Prop where
  rp : Rp K H' z v S
  ex : ∀ a o, H a = some o → H' a = some o
  nw : ∀ a ∈ S, H a = none
section
variable {K : W.Frag} {H : Hp}
theorem New.here {z : D} {v : V} (h : Rp K H z v []) : New K H z v H [] := ⟨h, fun _ _ e => e, by simp⟩
theorem ex_upd {p : Addr} {o : HO} (n : H p = none) : ∀ a u, H a = some u → upd H p o a = some u := fun a u e => by
  rw [upd_ne (ne_of_none e n)]
  exact e
theorem kp_ex {H' : Hp} {S : List Addr} (h : ∀ a o, H a = some o → H' a = some o) : Kp H H' S := fun a o e _ => h a o e
theorem New.tup {p : Addr} {ds : List D} {vs : List V} (n : H p = none) (r : Rps K H ds vs []) : New K H (.tup ds) (.ref p) (upd H p (.tup vs)) [] :=
  ⟨.tup upd_same (Rps.kp ds r (kp_ex (ex_upd n))), ex_upd n, by simp⟩
theorem New.lst {p : Addr} {ds : List D} {vs : List V} (n : H p = none) (r : Rps K H ds vs []) : New K H (.lst false ds) (.ref p) (upd H p (.lst vs)) [p] :=
  ⟨.lst (S := []) upd_same (Rps.kp ds r (kp_ex (ex_upd n))) (by simp), ex_upd n, by simpa using n⟩
end
def r1 (K : W.Frag) (k : D → Option D) : V → Hp → VK → Prop := fun x H Q => ∃ d T z, Rp K H d x T ∧ k d = some z ∧ ∀ v H' S, New K H z v H' S → Q v H'
def r2 (K : W.Frag) (k : D → D → Option D) : R2 := fun x y H Q => ∃ d e T U z, Rp K H d x T ∧ Rp K H e y U ∧ k d e = some z ∧ ∀ v H' S, New K H z v H' S → Q v H'
/-- what many operands are -/
def Rep (K : W.Frag) (H : Hp) : List D → List V → Prop := Paired fun d v => ∃ S, Rp K H d v S
def rN (K : W.Frag) (k : List D → Option D) : List V → Hp → VK → Prop := fun xs H Q => ∃ ds z, Rep K H ds xs ∧ k ds = some z ∧ ∀ v H' S, New K H z v H' S → Q v H'

section
variable {X : Cx}
theorem q_bl {K : W.Frag} {H : Hp} {Q : VK} {b : Bool} (q : ∀ v H' S, New K H (.bl b) v H' S → Q v H') : Q (.bl b) H := q _ _ _ (.here (.bl b))
theorem q_int {K : W.Frag} {H : Hp} {Q : VK} {b : Int} (q : ∀ v H' S, New K H (.int b) v H' S → Q v H') : Q (.int b) H := q _ _ _ (.here (.int b))
theorem q_str {K : W.Frag} {H : Hp} {Q : VK} {b : Str} (q : ∀ v H' S, New K H (.str b) v H' S → Q v H') : Q (.str b) H := q _ _ _ (.here (.str b))

theorem Rp.own {K : W.Frag} {H : Hp} {ds : List D} {v : V} {S : List Addr} (h : Rp K H (.lst false ds) v S) (z : fzns ds = true) : ∃ a vs, v = .ref a ∧ H a = some (.lst vs) ∧ Rps K H ds vs [] := by
  cases h with
  | lst h r n => exact ⟨_, _, rfl, h, r.fz_of z⟩
theorem op_dAdd : OpR X (binaryOp .Add) (r2 X.K (dBin .add)) := by
  intro pins s σ H x y v u Q I rx ry h
  obtain ⟨d, e, T, U, z, hd, he, hk, q⟩ := h
  unfold dBin at hk
  split at hk <;> try contradiction
  · cases hk; cases hd; cases he
    exact op_add pins s σ H _ _ v u Q I rx ry ⟨_, _, rfl, rfl, q_int q⟩
  · split at hk <;> try contradiction
    rename_i hz
    cases hk; cases hd; cases he
    exact op_add_str pins s σ H _ _ v u Q I rx ry ⟨_, _, rfl, rfl, hz, q_str q⟩
  · split at hk <;> try contradiction
    rename_i a b _ hz
    simp only [Bool.and_eq_true, decide_eq_true_eq] at hz
    obtain ⟨⟨z1, z2⟩, z3⟩ := hz
    cases hk
    obtain ⟨p, vs, rfl, h1', g1⟩ := hd.tupH
    obtain ⟨p', vs', rfl, h2', g2⟩ := he.tupH
    have h1 : SqT X.K H p vs := .inl (.inl h1')
    have h2 : SqT X.K H p' vs' := .inl (.inl h2')
    have g1 := g1.fz_of z1
    have g2 := g2.fz_of z2
    refine op_catA pins s σ H _ _ v u Q I rx ry ⟨p, p', vs, vs', rfl, rfl, h1, h2, by rw [← g1.length, ← g2.length]; exact z3, fun e => ?_, fun _ e => ?_, fun _ _ c hc => ?_⟩
    · have : a = [] := List.length_eq_zero_iff.mp (by rw [g1.length, e]; rfl)
      subst this
      exact q _ _ _ (.here (.tup h2' g2))
    · have : b = [] := List.length_eq_zero_iff.mp (by rw [g2.length, e]; rfl)
      subst this
      rw [List.append_nil] at q
      exact q _ _ _ (.here (.tup h1' g1))
    · exact q _ _ _ (.tup hc (g1.app0 g2))
  · split at hk <;> try contradiction
    rename_i hz
    simp only [Bool.and_eq_true, decide_eq_true_eq] at hz
    obtain ⟨⟨z1, z2⟩, z3⟩ := hz
    cases hk
    obtain ⟨p, vs, rfl, h1, g1⟩ := hd.own z1
    obtain ⟨p', vs', rfl, h2, g2⟩ := he.own z2
    refine op_cat pins s σ H _ _ v u Q I rx ry ⟨p, p', vs, vs', rfl, rfl, h1, h2, by rw [← g1.length, ← g2.length]; exact z3, fun c hc => ?_⟩
    exact q _ _ _ (.lst hc (g1.app0 g2))
theorem op_dI {op : Operator} {o : Op2} {Cc : Int → Int → Prop} {g : Int → Int → V} (ho : OpR X (binaryOp op) (rI Cc g)) (hi : ∀ d e z, dBin o d e = some z → ∃ a b c, d = .int a ∧ e = .int b ∧ z = .int c ∧ Cc a b ∧ g a b = .int c) :
    OpR X (binaryOp op) (r2 X.K (dBin o)) := by
  intro pins s σ H x y v u Q I rx ry h
  obtain ⟨d, e, T, U, z, hd, he, hk, q⟩ := h
  obtain ⟨a, b, c, rfl, rfl, rfl, hc, hg⟩ := hi d e z hk
  cases hd; cases he
  exact ho pins s σ H _ _ v u Q I rx ry ⟨a, b, rfl, rfl, hc, by rw [hg]; exact q_int q⟩
theorem op_dSub : OpR X (binaryOp .Sub) (r2 X.K (dBin .sub)) := by
  intro pins s σ H x y v u Q I rx ry h
  obtain ⟨d, e, T, U, z, hd, he, hk, q⟩ := h
  unfold dBin at hk
  split at hk <;> try contradiction
  cases hk; cases hd; cases he
  exact op_sub pins s σ H _ _ v u Q I rx ry ⟨_, _, rfl, rfl, q_int q⟩
theorem Rps.rep {K : W.Frag} {H : Hp} {ds : List D} {vs : List V} (r : Rps K H ds vs []) : ∀ n : Nat, Rps K H (List.replicate n ds).flatten (List.replicate n vs).flatten []
  | 0 => .nil
  | n + 1 => by
    rw [List.replicate_succ, List.replicate_succ, List.flatten_cons, List.flatten_cons]
    exact Rps.app0 r (Rps.rep r n)
theorem op_dMul : OpR X (binaryOp .Mult) (r2 X.K (dBin .mul)) := by
  intro pins s σ H x y v u Q I rx ry h
  obtain ⟨d, e, T, U, z, hd, he, hk, q⟩ := h
  unfold dBin at hk
  split at hk <;> try contradiction
  · split at hk <;> try contradiction
    rename_i hz
    cases hk; cases hd; cases he
    exact op_mulW pins s σ H _ _ v u Q I rx ry ⟨_, _, rfl, rfl, hz, q_int q⟩
  · split at hk <;> try contradiction
    rename_i a n _ hz
    simp only [Bool.and_eq_true, decide_eq_true_eq] at hz
    obtain ⟨⟨⟨z1, z2⟩, z3⟩, z4⟩ := hz
    cases hk; cases he
    obtain ⟨l, vs, rfl, hl, g⟩ := hd.own z1
    exact op_rep pins s σ H _ _ v u Q I rx ry ⟨l, n, vs, rfl, rfl, hl, z2, z3, by rw [← g.length]; exact z4, fun p hp => q _ _ _ (.lst hp (g.rep n.toNat))⟩
theorem op_dDiv : OpR X (binaryOp .FloorDiv) (r2 X.K (dBin .fdiv)) := op_dI op_fdivW fun d e z hk => by
  unfold dBin at hk
  split at hk <;> try contradiction
  split at hk <;> try contradiction
  rename_i hz
  cases hk
  exact ⟨_, _, _, rfl, rfl, rfl, hz, rfl⟩
theorem op_dMod : OpR X (binaryOp .Mod) (r2 X.K (dBin .mod)) := op_dI op_mod fun d e z hk => by
  unfold dBin at hk
  split at hk <;> try contradiction
  split at hk <;> try contradiction
  rename_i hz
  cases hk
  exact ⟨_, _, _, rfl, rfl, rfl, hz, rfl⟩
theorem op_dPow : OpR X (binaryOp .Pow) (r2 X.K (dBin .pow)) := op_dI op_pow fun d e z hk => by
  unfold dBin at hk
  split at hk <;> try contradiction
  split at hk <;> try contradiction
  rename_i hz
  cases hk
  exact ⟨_, _, _, rfl, rfl, rfl, hz, rfl⟩
def opOf : Op2 → Operator
  | .add => .Add | .sub => .Sub | .mul => .Mult | .fdiv => .FloorDiv | .mod => .Mod | .pow => .Pow
theorem op_dBin : ∀ o : Op2, OpR X (binaryOp (opOf o)) (r2 X.K (dBin o))
  | .add => op_dAdd
  | .sub => op_dSub
  | .mul => op_dMul
  | .fdiv => op_dDiv
  | .mod => op_dMod
  | .pow => op_dPow
theorem un_dNeg : UnR X (unaryOp .USub) (r1 X.K dNeg) := by
  intro pins s σ H x v Q I rx h
  obtain ⟨d, T, z, hd, hk, q⟩ := h
  unfold dNeg at hk
  split at hk <;> try contradiction
  cases hk; cases hd
  exact un_neg pins s σ H _ v Q I rx ⟨_, rfl, q_int q⟩

/-! ### comparisons -/
def cpOf : Cp → CmpOp
  | .eq => .Eq | .ne => .NotEq | .lt => .Lt | .le => .LtE | .gt => .Gt | .ge => .GtE | .isIn => .In | .notIn => .NotIn | .is => .Is | .isNot => .IsNot
abbrev rCp (K : W.Frag) (o : Cp) : R2 := r2 K fun d e => (dCmp o d e).map D.bl
theorem dEq_ok {d e : D} {b : Bool} (h : dEq d e = some b) : (d.dep ≤ 64 ∧ d.plain = true ∧ e.plain = true) ∧ b = deq d e := by
  unfold dEq at h
  split at h <;> try contradiction
  rename_i hz
  simp only [Bool.and_eq_true, decide_eq_true_eq] at hz
  cases h
  exact ⟨⟨hz.2, hz.1.1, hz.1.2⟩, rfl⟩
theorem cp_eq (hu : X.A.units + 64 < cLine) : OpR X (compareOp .Eq) (rCp X.K .eq) := by
  intro pins s σ H x y v u Q I rx ry h
  obtain ⟨d, e, T, U, z, hd, he, hk, q⟩ := h
  cases hq : dEq d e with
  | none => simp [dCmp, hq] at hk
  | some b =>
    simp [dCmp, hq] at hk
    subst hk
    obtain ⟨h1, h2⟩ := dEq_ok hq
    rw [h2] at q
    exact rc_at I d e X.A hd he rx ry (by omega) h1.2.1 h1.2.2 X.prog X.w X.xe _ (fin_bl I (q_bl q) rfl)
theorem cp_ne (hu : X.A.units + 64 < cLine) : OpR X (compareOp .NotEq) (rCp X.K .ne) := by
  intro pins s σ H x y v u Q I rx ry h
  obtain ⟨d, e, T, U, z, hd, he, hk, q⟩ := h
  cases hq : dEq d e with
  | none => simp [dCmp, hq] at hk
  | some b =>
    simp [dCmp, hq] at hk
    subst hk
    obtain ⟨h1, h2⟩ := dEq_ok hq
    rw [h2] at q
    exact ne_at I d e X.A hd he rx ry (by omega) h1.2.1 h1.2.2 X.prog X.w X.xe _ (fin_bl I (q_bl q) rfl)
theorem cp_int {op : CmpOp} {o : Cp} {g : Int → Int → Bool} (ho : OpR X (compareOp op) (rI0 fun i j => .bl (g i j))) (hi : ∀ d e z, dCmp o d e = some z → ∃ a b, d = .int a ∧ e = .int b ∧ z = g a b) : OpR X (compareOp op) (rCp X.K o) := by
  intro pins s σ H x y v u Q I rx ry h
  obtain ⟨d, e, T, U, z, hd, he, hk, q⟩ := h
  cases hq : dCmp o d e with
  | none => simp [hq] at hk
  | some b =>
    simp [hq] at hk
    subst hk
    obtain ⟨a, b', rfl, rfl, rfl⟩ := hi d e b hq
    cases hd; cases he
    exact ho pins s σ H _ _ v u Q I rx ry ⟨a, b', rfl, rfl, q_bl q⟩
theorem any_rep {K : W.Frag} {H : Hp} {x : D} : ∀ {ys : List D} {us : List Value} (e : Value → Bool), (∀ (i : Nat) (y : D) (u : Value), ys[i]? = some y → us[i]? = some u → e u = deq y x) → ys.length = us.length → us.any e = ys.any fun y => deq y x
  | [], [], _, _, _ => rfl
  | [], _ :: _, _, _, h => by simp at h
  | _ :: _, [], _, _, h => by simp at h
  | y :: ys, u :: us, e, h, hl => by
    have h0 := h 0 y u rfl rfl
    have ih := any_rep (K := K) (H := H) (x := x) (ys := ys) (us := us) e (fun i y' u' a b => h (i + 1) y' u' (by simpa using a) (by simpa using b)) (by simpa using hl)
    simp only [List.any_cons, h0, ih]
open Classical in
/-- which value of the items equals x -/
noncomputable def eqTo (x : D) (ys : List D) (us : List Value) (u : Value) : Bool :=
  if h : ∃ (i : Nat) (y : D), us[i]? = some u ∧ ys[i]? = some y then deq h.choose_spec.choose x else false
theorem rel_get {K : W.Frag} {H : Hp} {ys : List D} {vs : List V} {us : List Value} {T : List Addr} (r : Rps K H ys vs T) (rv : Vals vs us) {i : Nat} {y : D} {u : Value} (hy : ys[i]? = some y) (hu : us[i]? = some u) : ∃ v S, Rp K H y v S ∧ RelV v u := by
  obtain ⟨v, S, e1, h1, _⟩ := r.get hy
  obtain ⟨u', e2, h2⟩ := rv.get e1
  rw [hu] at e2
  cases e2
  exact ⟨v, S, h1, h2⟩
mutual
theorem deq_left {s : Shared} {pins : List (Addr × Obj)} {σ : L2.St} {H : Hp} (I : Inv X pins σ H s) : ∀ (y y' x : D) {v v' : V} {u : Value} {S S' : List Addr}, Rp X.K H y v S → Rp X.K H y' v' S' → RelV v u → RelV v' u → y.plain = true → y'.plain = true → deq y x = deq y' x
  | .non, y', x, _, _, _, _, _, h, h', r, r', py, py' => by
    cases h; cases r
    cases h' <;> first | rfl | (cases r'; done) | (obtain ⟨_, z⟩ := r'; cases z)
  | .bl b, y', x, _, _, _, _, _, h, h', r, r', py, py' => by
    cases h; cases r
    cases h' <;> first | (cases r'; rfl) | (cases r'; done) | (obtain ⟨_, z⟩ := r'; cases z)
  | .int b, y', x, _, _, _, _, _, h, h', r, r', py, py' => by
    cases h; obtain ⟨_, rfl⟩ := r
    cases h' <;> first | (obtain ⟨_, z⟩ := r'; cases z <;> rfl) | (cases r'; done)
  | .str b, y', x, _, _, _, _, _, h, h', r, r', py, py' => by
    cases h; obtain ⟨_, rfl⟩ := r
    cases h' <;> first | (obtain ⟨_, z⟩ := r'; cases z <;> rfl) | (cases r'; done)
  | .tup ys, y', x, v, _, _, _, _, h, h', r, r', py, py' => by
    obtain ⟨a, vs, rfl, q, g⟩ := h.tupI
    cases r
    cases y' with
    | tup ys' =>
      obtain ⟨a', vs', rfl, q', g'⟩ := h'.tupI
      cases r'
      have e := I.tuple_inj q q'
      subst e
      obtain ⟨us, rv, _⟩ := isTupleI I q
      cases x with
      | tup xs => exact deqs_left I ys ys' xs g g' rv (by simpa [D.plain] using py) (by simpa [D.plain] using py')
      | _ => simp only [deq]
    | lst f ys' =>
      obtain ⟨a', vs', _, rfl, q', g', _⟩ := h'.lstI
      cases r'
      obtain ⟨_, _, t⟩ := isTupleI I q
      obtain ⟨_, _, t'⟩ := isListI I q'
      exact absurd rfl (SeqAt.ne_of_list_tuple t' t)
    | dct => simp [D.plain] at py'
    | _ => cases h' <;> first | (cases r'; done) | (obtain ⟨_, z⟩ := r'; cases z)
  | .lst f ys, y', x, v, _, _, _, _, h, h', r, r', py, py' => by
    obtain ⟨a, vs, _, rfl, q, g, _⟩ := h.lstI
    cases r
    cases y' with
    | lst f' ys' =>
      obtain ⟨a', vs', _, rfl, q', g', _⟩ := h'.lstI
      cases r'
      have e := I.list_inj q q'
      subst e
      obtain ⟨us, rv, _⟩ := isListI I q
      cases x with
      | lst f'' xs => exact deqs_left I ys ys' xs g g' rv (by simpa [D.plain] using py) (by simpa [D.plain] using py')
      | _ => simp only [deq]
    | tup ys' =>
      obtain ⟨a', vs', rfl, q', g'⟩ := h'.tupI
      cases r'
      obtain ⟨_, _, t⟩ := isListI I q
      obtain ⟨_, _, t'⟩ := isTupleI I q'
      exact absurd rfl (SeqAt.ne_of_list_tuple t t')
    | dct => simp [D.plain] at py'
    | _ => cases h' <;> first | (cases r'; done) | (obtain ⟨_, z⟩ := r'; cases z)
  | .dct _ _ _ _, _, _, _, _, _, _, _, _, _, _, _, py, _ => by simp [D.plain] at py
  | .set _ _, _, _, _, _, _, _, _, h, _, _, _, _, _ => nomatch h
  | .obj _ _, _, _, _, _, _, _, _, h, _, _, _, _, _ => nomatch h
theorem deqs_left {s : Shared} {pins : List (Addr × Obj)} {σ : L2.St} {H : Hp} (I : Inv X pins σ H s) : ∀ (ys ys' xs : List D) {vs : List V} {us : List Value} {S S' : List Addr}, Rps X.K H ys vs S → Rps X.K H ys' vs S' → Vals vs us → plains ys = true → plains ys' = true → deqs ys xs = deqs ys' xs
  | [], ys', xs, _, _, _, _, h, h', _, _, _ => by cases h; cases h'; rfl
  | y :: ys, ys', xs, _, _, _, _, h, h', rv, py, py' => by
    cases h with
    | cons h g _ =>
      cases h' with
      | cons h' g' _ =>
        cases rv with
        | cons r rv =>
          cases xs with
          | nil => simp only [deqs]
          | cons x xs =>
            have p1 : y.plain = true ∧ plains ys = true := by simpa [plains] using py
            have p2 := Bool.and_eq_true_iff.mp (show (D.plain _ && plains _) = true from py')
            simp only [deqs, deq_left I y _ x h h' r r p1.1 p2.1, deqs_left I ys _ xs g g' rv p1.2 p2.2]
end
theorem plains_get : ∀ {ys : List D} {i : Nat} {y : D}, plains ys = true → ys[i]? = some y → y.plain = true
  | [], _, _, _, e => by simp at e
  | x :: xs, 0, y, h, e => by
    cases e
    have p1 : x.plain = true ∧ plains xs = true := by simpa [plains] using h
    exact p1.1
  | x :: xs, i + 1, y, h, e => by
    have p1 : x.plain = true ∧ plains xs = true := by simpa [plains] using h
    exact plains_get (i := i) p1.2 (by simpa using e)
theorem eqTo_at {s : Shared} {pins : List (Addr × Obj)} {σ : L2.St} {H : Hp} (I : Inv X pins σ H s) {x : D} {ys : List D} {vs : List V} {us : List Value} {T : List Addr} (r : Rps X.K H ys vs T) (rv : Vals vs us) (hp : plains ys = true) {i : Nat} {y : D} {u : Value} (hy : ys[i]? = some y) (hu : us[i]? = some u) :
    eqTo x ys us u = deq y x := by
  have h : ∃ (i : Nat) (y : D), us[i]? = some u ∧ ys[i]? = some y := ⟨i, y, hu, hy⟩
  unfold eqTo
  rw [dif_pos h]
  obtain ⟨e1, e2⟩ := h.choose_spec.choose_spec
  obtain ⟨v, S, h1, h2⟩ := rel_get r rv hy hu
  obtain ⟨v', S', h1', h2'⟩ := rel_get r rv e2 e1
  exact deq_left I _ _ _ h1' h1 h2' h2 (plains_get hp e2) (plains_get hp hy)
theorem in_items {s : Shared} {pins : List (Addr × Obj)} {σ : L2.St} {H : Hp} (I : Inv X pins σ H s) (hu : X.A.units + 65 < cLine) {x : D} {ys : List D} {vx : V} {ux : Value} {vs : List V} {us : List Value} {S T : List Addr} (hx : Rp X.K H x vx S) (rx : RelV vx ux) (hd : x.dep ≤ 64) (px : x.plain = true) (hp : plains ys = true)
    (r : Rps X.K H ys vs T) (rv : Vals vs us) : (∀ u, u ∈ us.toArray → SeqAt.EqAt X.A.in1 s u ux (eqTo x ys us u)) ∧ us.toArray.any (eqTo x ys us) = ys.any fun y => deq y x := by
  have hl : ys.length = us.length := r.length.trans rv.length
  refine ⟨fun u m => ?_, ?_⟩
  · obtain ⟨i, hi, e⟩ := List.mem_iff_getElem.mp (Array.mem_toArray.mp m)
    have hu' : us[i]? = some u := by rw [List.getElem?_eq_getElem hi, e]
    have hy : ys[i]? = some ys[i] := List.getElem?_eq_getElem (by omega)
    rw [eqTo_at I r rv hp hy hu']
    obtain ⟨v, S', h1, h2⟩ := rel_get r rv hy hu'
    exact eq_at I _ x X.A.in1 h1 hx h2 rx (by show X.A.units + 1 + _ < cLine; omega) (plains_get hp hy) px
  · rw [List.any_toArray]
    exact any_rep (K := X.K) (H := H) _ (fun i y u hy hu' => eqTo_at I r rv hp hy hu') hl
theorem cp_lt : OpR X (compareOp .Lt) (rCp X.K .lt) := cp_int op_lt fun d e z h => by
  unfold dCmp at h
  split at h <;> try contradiction
  all_goals first | contradiction | (cases h; exact ⟨_, _, rfl, rfl, rfl⟩)
theorem cp_le : OpR X (compareOp .LtE) (rCp X.K .le) := cp_int op_le fun d e z h => by
  unfold dCmp at h
  split at h <;> try contradiction
  all_goals first | contradiction | (cases h; exact ⟨_, _, rfl, rfl, rfl⟩)
theorem cp_gt : OpR X (compareOp .Gt) (rCp X.K .gt) := cp_int op_gt fun d e z h => by
  unfold dCmp at h
  split at h <;> try contradiction
  all_goals first | contradiction | (cases h; exact ⟨_, _, rfl, rfl, rfl⟩)
theorem cp_ge : OpR X (compareOp .GtE) (rCp X.K .ge) := cp_int op_ge fun d e z h => by
  unfold dCmp at h
  split at h <;> try contradiction
  all_goals first | contradiction | (cases h; exact ⟨_, _, rfl, rfl, rfl⟩)
theorem map_bl {o : Option Bool} {z : D} (h : o.map D.bl = some z) : ∃ b, o = some b ∧ z = .bl b := by
  cases o with
  | none => cases h
  | some b => cases h; exact ⟨b, rfl, rfl⟩
theorem map_not {o : Option Bool} {z : Bool} (h : o.map not = some z) : ∃ b, o = some b ∧ z = !b := by
  cases o with
  | none => cases h
  | some b => cases h; exact ⟨b, rfl, rfl⟩
/-! ### dicts -/
theorem fzs_keyD : ∀ ks : List L2.Key, fzs (ks.map keyD) = ks.map keyD
  | [] => rfl
  | k :: ks => by cases k <;> simp [fzs, keyD, D.fz, fzs_keyD ks]
theorem keyD_inj {a b : L2.Key} (h : keyD a = keyD b) : a = b := by
  cases a <;> cases b <;> simp [keyD] at h <;> rw [h]
theorem keyDs_inj : ∀ {a b : List L2.Key}, a.map keyD = b.map keyD → a = b
  | [], [], _ => rfl
  | [], _ :: _, h => by simp at h
  | _ :: _, [], h => by simp at h
  | a :: as, b :: bs, h => by
    simp only [List.map_cons, List.cons.injEq] at h
    rw [keyD_inj h.1, keyDs_inj h.2]
theorem same_iff (x y : D) : x.same y = true ↔ x = y := ⟨same_ok x y, fun h => h ▸ same_refl x⟩
theorem same_key (a b : L2.Key) : (keyD a).same (keyD b) = decide (a = b) := by
  rw [Bool.eq_iff_iff, same_iff, decide_eq_true_iff]
  exact ⟨keyD_inj, fun h => h ▸ rfl⟩
theorem same_keys (a b : List L2.Key) : (D.tup (a.map keyD)).same (.tup (b.map keyD)) = decide (a = b) := by
  rw [Bool.eq_iff_iff, same_iff, decide_eq_true_iff]
  exact ⟨fun h => keyDs_inj (D.tup.inj h), fun h => h ▸ rfl⟩
theorem key1_of {K : W.Frag} {H : Hp} {d : D} {v : V} {S : List Addr} (h : Rp K H d v S) (k : keyOk1 d = true) : ∃ x : L2.Key, d = keyD x ∧ v = kV x := by
  cases h <;> simp [keyOk1] at k
  · exact ⟨.inl _, rfl, rfl⟩
  · exact ⟨.inr _, rfl, rfl⟩
theorem keys_of {K : W.Frag} {H : Hp} : ∀ {ds : List D} {vs : List V} {S : List Addr}, Rps K H ds vs S → ds.all keyOk1 = true → ∃ x : List L2.Key, ds = x.map keyD ∧ vs = x.map kV
  | [], _, _, h, _ => by cases h; exact ⟨[], rfl, rfl⟩
  | d :: ds, _, _, h, k => by
    cases h with
    | cons h r _ =>
      rw [List.all_cons, Bool.and_eq_true] at k
      obtain ⟨x, rfl, rfl⟩ := key1_of h k.1
      obtain ⟨xs, rfl, rfl⟩ := keys_of r k.2
      exact ⟨x :: xs, rfl, rfl⟩
/-- a key of the one kind, of the other -/
theorem key_ok {K : W.Frag} {H : Hp} {t : Bool} {d : D} {v : V} {S : List Addr} (h : Rp K H d v S) (k : keyOk t d = true) : (t = false ∧ ∃ x : L2.Key, d = keyD x ∧ v = kV x) ∨ (t = true ∧ ∃ (x : List L2.Key) (b : Addr), d = .tup (x.map keyD) ∧ v = .ref b ∧ H b = some (.tup (x.map kV))) := by
  cases t with
  | false =>
    refine .inl ⟨rfl, key1_of h ?_⟩
    cases d <;> simp [keyOk, keyOk1] at k ⊢
  | true =>
    cases d <;> simp [keyOk] at k
    rename_i ds
    obtain ⟨b, vs, rfl, hb, r⟩ := h.tupH
    obtain ⟨x, rfl, rfl⟩ := keys_of r (by simpa using k)
    exact .inr ⟨rfl, x, b, rfl, rfl, hb⟩
theorem look_gen {κ : Type} [DecidableEq κ] {K : W.Frag} {H : Hp} (f : κ → D) (hf : ∀ a b, (f a).same (f b) = decide (a = b)) (k : κ) : ∀ {kvs : List (κ × V)} {ds : List D}, Rps K H ds (kvs.map (·.2)) [] →
    (match dLook (f k) (kvs.map fun kv => f kv.1) ds with | some d => ∃ v, valV kvs k = some v ∧ Rp K H d v [] | none => valV kvs k = none)
  | [], [], _ => rfl
  | [], _ :: _, r => by cases r
  | _ :: _, [], r => by cases r
  | p :: kvs, d :: ds, r => by
    obtain ⟨r1, r2⟩ := r.split
    simp only [List.map_cons, dLook, hf]
    by_cases c : p.1 = k
    · simp only [c, decide_true, if_true]
      exact ⟨p.2, valV_pos c, r1⟩
    · simp only [c, decide_false, Bool.false_eq_true, if_false]
      rw [valV_neg c]
      exact look_gen f hf k r2
theorem has_gen {κ : Type} [DecidableEq κ] (f : κ → D) (hf : ∀ a b, (f a).same (f b) = decide (a = b)) (k : κ) : ∀ kvs : List (κ × V), dHas (f k) (kvs.map fun kv => f kv.1) = (valV kvs k).isSome := fun kvs => by
  unfold dHas
  rw [List.any_map, ← valV_any]
  congr 1
  funext kv
  exact hf _ _
theorem Rp.dctI {K : W.Frag} {H : Hp} {f t : Bool} {ks ds : List D} {v : V} {S : List Addr} (h : Rp K H (.dct f t ks ds) v S) : ∃ a us u, v = .ref a ∧ Rd H a u ∧ DicO t ks us u ∧ Rps K H ds us [] := by
  cases h with
  | dct h o r => exact ⟨_, _, _, rfl, .inl h, o, r⟩
  | dcf h o r => exact ⟨_, _, _, rfl, .inr ⟨_, h⟩, o, r⟩
theorem dget_of {K : W.Frag} {H : Hp} {f t : Bool} {ks ds : List D} {k : D} {v y : V} {S T : List Addr} (h : Rp K H (.dct f t ks ds) v S) (g : Rp K H k y T) (hk : keyOk t k = true) :
    ∃ a o, v = .ref a ∧ DGet H a y o ∧ o.isSome = dHas k ks ∧ (match dLook k ks ds with | some d => ∃ u, o = some u ∧ Rp K H d u [] | none => o = none) := by
  obtain ⟨a, us, u, rfl, hu, o, r⟩ := h.dctI
  rcases key_ok g hk with ⟨rfl, x, rfl, rfl⟩ | ⟨rfl, x, b, rfl, rfl, hb⟩
  · cases o with
    | k kvs => exact ⟨a, _, rfl, .inl ⟨kvs, x, hu, rfl, rfl⟩, (has_gen keyD same_key x kvs).symm, look_gen keyD same_key x r⟩
  · cases o with
    | t kvs => exact ⟨a, _, rfl, .inr ⟨kvs, x, b, hu, rfl, hb, rfl⟩, (has_gen (fun k => .tup (k.map keyD)) same_keys x kvs).symm, look_gen (fun k => .tup (k.map keyD)) same_keys x r⟩
theorem cp_in (hu : X.A.units + 65 < cLine) : OpR X (compareOp .In) (rCp X.K .isIn) := by
  intro pins s σ H x y v u Q I rx ry h
  obtain ⟨d, e, T, U, z, hd, he, hk, q⟩ := h
  obtain ⟨b, hb, rfl⟩ := map_bl hk
  have hb : dIn d e = some b := hb
  unfold dIn at hb
  split at hb
  · split at hb <;> try contradiction
    rename_i ys hz
    simp only [Bool.and_eq_true, decide_eq_true_eq] at hz
    cases hb
    obtain ⟨a, vs, rfl, q1, g⟩ := he.tupI
    cases ry
    obtain ⟨us, rv, t⟩ := isTupleI I q1
    obtain ⟨k1, k2⟩ := in_items I hu hd rx hz.2 hz.1.1 hz.1.2 g rv
    exact SeqAt.in_tupleAt _ t k1 (fin_bl I (q_bl q) k2.symm)
  · split at hb <;> try contradiction
    rename_i ys hz
    simp only [Bool.and_eq_true, decide_eq_true_eq] at hz
    cases hb
    obtain ⟨a, vs, _, rfl, q1, g, _⟩ := he.lstI
    cases ry
    obtain ⟨us, rv, t⟩ := isListI I q1
    obtain ⟨k1, k2⟩ := in_items I hu hd rx hz.2 hz.1.1 hz.1.2 g rv
    exact SeqAt.in_listAt _ t k1 (fin_bl I (q_bl q) k2.symm)
  · split at hb <;> try contradiction
    cases hb; cases hd; cases he
    exact op_in_str pins s σ H _ _ v u Q I rx ry ⟨_, _, rfl, rfl, q_bl q⟩
  · split at hb <;> try contradiction
    rename_i hk'
    cases hb
    obtain ⟨a, o, rfl, g, ho, _⟩ := dget_of he hd hk'
    cases ry
    exact d_in (by omega) I g rx fun s' I' => ⟨.bl o.isSome, _, I', rfl, by rw [ho]; exact q_bl q⟩
  · contradiction
theorem cp_notIn (hu : X.A.units + 65 < cLine) : OpR X (compareOp .NotIn) (rCp X.K .notIn) := by
  intro pins s σ H x y v u Q I rx ry h
  obtain ⟨d, e, T, U, z, hd, he, hk, q⟩ := h
  obtain ⟨b', hb', rfl⟩ := map_bl hk
  obtain ⟨b, hb, rfl⟩ := map_not (o := dIn d e) hb'
  unfold dIn at hb
  split at hb
  · split at hb <;> try contradiction
    rename_i ys hz
    simp only [Bool.and_eq_true, decide_eq_true_eq] at hz
    cases hb
    obtain ⟨a, vs, rfl, q1, g⟩ := he.tupI
    cases ry
    obtain ⟨us, rv, t⟩ := isTupleI I q1
    obtain ⟨k1, k2⟩ := in_items I hu hd rx hz.2 hz.1.1 hz.1.2 g rv
    exact SeqAt.notIn_tupleAt _ t k1 (fin_bl I (q_bl q) (by rw [k2]))
  · split at hb <;> try contradiction
    rename_i ys hz
    simp only [Bool.and_eq_true, decide_eq_true_eq] at hz
    cases hb
    obtain ⟨a, vs, _, rfl, q1, g, _⟩ := he.lstI
    cases ry
    obtain ⟨us, rv, t⟩ := isListI I q1
    obtain ⟨k1, k2⟩ := in_items I hu hd rx hz.2 hz.1.1 hz.1.2 g rv
    exact SeqAt.notIn_listAt _ t k1 (fin_bl I (q_bl q) (by rw [k2]))
  · split at hb <;> try contradiction
    cases hb; cases hd; cases he
    exact op_notin_str pins s σ H _ _ v u Q I rx ry ⟨_, _, rfl, rfl, q_bl q⟩
  · split at hb <;> try contradiction
    rename_i hk'
    cases hb
    obtain ⟨a, o, rfl, g, ho, _⟩ := dget_of he hd hk'
    cases ry
    exact d_notIn (by omega) I g rx fun s' I' => ⟨.bl (!o.isSome), _, I', rfl, by rw [ho]; exact q_bl q⟩
  · contradiction
theorem non_iff {K : W.Frag} {H : Hp} {d : D} {v : V} {S : List Addr} (h : Rp K H d v S) : d.isNon = decide (v = V.non) := by
  cases h <;> simp [D.isNon]
theorem cp_is : OpR X (compareOp .Is) (rCp X.K .is) := by
  intro pins s σ H x y v u Q I rx ry h
  obtain ⟨d, e, T, U, z, hd, he, hk, q⟩ := h
  obtain ⟨b, hb, rfl⟩ := map_bl hk
  unfold dCmp at hb
  split at hb <;> try contradiction
  cases hb; cases he
  exact op_isN pins s σ H _ _ v u Q I rx ry ⟨rfl, by rw [← non_iff hd]; exact q_bl q⟩
theorem cp_isNot : OpR X (compareOp .IsNot) (rCp X.K .isNot) := by
  intro pins s σ H x y v u Q I rx ry h
  obtain ⟨d, e, T, U, z, hd, he, hk, q⟩ := h
  obtain ⟨b, hb, rfl⟩ := map_bl hk
  unfold dCmp at hb
  split at hb <;> try contradiction
  cases hb; cases he
  exact op_notN pins s σ H _ _ v u Q I rx ry ⟨rfl, by rw [← non_iff hd]; exact q_bl q⟩
theorem cp_all (hu : X.A.units + 65 < cLine) : ∀ o : Cp, OpR X (compareOp (cpOf o)) (rCp X.K o)
  | .eq => cp_eq (by omega)
  | .ne => cp_ne (by omega)
  | .lt => cp_lt
  | .le => cp_le
  | .gt => cp_gt
  | .ge => cp_ge
  | .isIn => cp_in hu
  | .notIn => cp_notIn hu
  | .is => cp_is
  | .isNot => cp_isNot

/-! ### items, slices -/
theorem bool_item {prog : Program} {w : World} {A : Around} {E : Value → Shared → Prop} {s : Shared} {x : Str} {t : Tok} {b : Bool} {c : Nat} {Q : Value → Shared → Prop}
    (hc : (seqIndex? (if b then 1 else 0) x.length).bind (x.cps[·]?) = some c) (h : Q (.str ⟨#[c]⟩ s.toks) { s with toks := s.toks + 1 }) : wpAny (model prog w) A (getItem (.str x t) (.bool b)) Q E s := by
  cases b <;>
  · refine getItem_slot (typeIs_str s x t) (by decide) slot_str_getitem (wpAny_call_entry slot_str_getitem (typeIs_str s x t) entry_str_getitem ?_ (PySem.F.args_str_getitem_2 _ _))
    show wpAny _ _ (match (seqIndex? (_ : Int) x.length).bind (x.cps[·]?) with
            | some c => retStr ⟨#[c]⟩
            | none => _) _ _ s
    rw [hc]
    exact wpAny_bind (wpAny_mkStr (wpAny_pure ⟨_, rfl, h⟩))
theorem atI_rep {K : W.Frag} {H : Hp} {ds : List D} {vs : List V} {T : List Addr} {i : Int} {d : D} (r : Rps K H ds vs T) (h : atI ds i = some d) : ∃ v S, atI vs i = some v ∧ Rp K H d v S := by
  unfold atI at h ⊢
  rw [← r.length]
  cases e : ixN ds.length i with
  | none => rw [e] at h; cases h
  | some j =>
    rw [e] at h
    obtain ⟨v, S, e1, h1, _⟩ := r.get (i := j) h
    exact ⟨v, S, e1, h1⟩
theorem only_ok {d z : D} (h : only d = some z) : z = d ∧ d.fzn = true := by
  unfold only at h
  split at h <;> try contradiction
  rename_i hz
  cases h
  exact ⟨rfl, hz⟩
abbrev kIx : D → D → Option D := fun d e => (dIx d e).bind only
theorem ix_d (hu : X.A.units + 65 < cLine) : IxR X (r2 X.K kIx) := by
  intro value slice pins s σ H x y v u Q I rx ry h hs
  obtain ⟨d, e, T, U, z, hd, he, hk, q⟩ := h
  obtain ⟨z', hk, ho⟩ := Option.bind_eq_some_iff.mp hk
  obtain ⟨rfl, hf⟩ := only_ok ho
  unfold dIx at hk
  split at hk <;> try contradiction
  · obtain ⟨a, vs, rfl, q1, g⟩ := hd.tupI
    cases he
    obtain ⟨w, S, e1, h1⟩ := atI_rep g hk
    exact ix_tup value slice pins s σ H _ _ v u Q I rx ry ⟨a, vs, _, w, rfl, rfl, q1, e1, q _ _ _ (.here (h1.fz_of hf))⟩ hs
  · obtain ⟨a, vs, _, rfl, q1, g, _⟩ := hd.lstI
    cases he
    obtain ⟨w, S, e1, h1⟩ := atI_rep g hk
    exact ix_list value slice pins s σ H _ _ v u Q I rx ry ⟨a, vs, _, w, rfl, rfl, q1, e1, q _ _ _ (.here (h1.fz_of hf))⟩ hs
  · split at hk <;> try contradiction
    rename_i hz
    obtain ⟨c, hc, rfl⟩ := Option.map_eq_some_iff.mp hk
    cases hd; cases he
    exact ix_str value slice pins s σ H _ _ v u Q I rx ry ⟨_, _, c, rfl, rfl, hz, hc, q_str q⟩ hs
  · split at hk <;> try contradiction
    rename_i z b _ hz
    obtain ⟨c, hc, rfl⟩ := Option.map_eq_some_iff.mp hk
    cases hd; cases he
    obtain ⟨t, rfl⟩ := rx
    cases ry
    obtain ⟨j, h1, h2, h3, h4, h5⟩ := atI_get hc
    refine tail_any (typeIs_str s z t) slot_str_getitem.lookup (bool_item (c := c) ?_ ⟨.str ⟨#[c]⟩, H, I.tok _, ⟨_, rfl⟩, q_str q⟩) hs
    have e : z.cps.toList.length = z.length := by simp [Str.length]
    rw [e] at h1
    rw [h1]
    simpa using h2
  · split at hk <;> try contradiction
    rename_i hk'
    obtain ⟨a, o, rfl, g, ho, hl⟩ := dget_of hd he hk'
    rw [hk] at hl
    obtain ⟨w, rfl, rw'⟩ := hl
    cases rx
    exact tail_any (dict_typeIs I g) PySem.F.slot_dict_getitem.lookup (d_getItem (by omega) I g ry fun w' s' I' r' => ⟨_, _, I', r', q _ _ _ (.here (rw'.fz_of hf))⟩) hs
theorem cut_all {α : Type} {xs : List α} {lo hi : Option Int} (h : HT.sIx xs.length 0 lo = 0 ∧ HT.sIx xs.length xs.length hi = xs.length) : cut xs lo hi = xs := by
  unfold cut
  rw [h.1, h.2]
  simp
abbrev rSl (K : W.Frag) : V → Option Int → Option Int → Hp → VK → Prop := fun x lo hi H Q => r1 K (dSl lo hi) x H Q
theorem sl_d : SlR X (rSl X.K) := by
  intro pins s σ H x v vl vu lo hi sl Q I rx hs pl pu h
  obtain ⟨d, T, z, hd, hk, q⟩ := h
  unfold dSl at hk
  split at hk <;> try contradiction
  · split at hk <;> try contradiction
    rename_i xs hz
    cases hk
    obtain ⟨a, vs, rfl, q1, g⟩ := hd.tupH
    have g0 := g.fz_of hz
    refine sl_tupA pins s σ H _ v vl vu lo hi sl Q I rx hs pl pu ⟨a, vs, rfl, .inl (.inl q1), fun e => ?_, fun _ p hp => ?_⟩
    · rw [← g.length] at e
      rw [cut_all e] at q
      exact q _ _ _ (.here (.tup q1 g0))
    · exact q _ _ _ (.tup hp (g0.cut0 lo hi))
  · split at hk <;> try contradiction
    rename_i xs hz
    cases hk
    obtain ⟨a, vs, _, rfl, q1, g, _⟩ := hd.lstI
    exact sl_list pins s σ H _ v vl vu lo hi sl Q I rx hs pl pu ⟨a, vs, rfl, q1, fun p hp => q _ _ _ (.lst hp ((g.fz_of hz).cut0 lo hi))⟩
  · split at hk <;> try contradiction
    rename_i z hz
    cases hk; cases hd
    exact sl_str pins s σ H _ v vl vu lo hi sl Q I rx hs pl pu ⟨z, rfl, hz, q_str q⟩
end
end Aw

set_option Elab.async false
set_option linter.all false
set_option maxRecDepth 100000
set_option maxHeartbeats 800000
/-! EvS: data as the library reads it; sorted. -/
namespace Aw
open PySem L2 PySem.Spec
open PyProof.Rows hiding St
mutual
theorem dep_py : ∀ d : D, (toPy d).depth ≤ d.dep
  | .non => Nat.zero_le _
  | .bl _ => Nat.zero_le _
  | .int _ => Nat.zero_le _
  | .str _ => Nat.zero_le _
  | .tup xs => Nat.succ_le_succ (deps_py xs)
  | .lst _ xs => Nat.succ_le_succ (deps_py xs)
  | .dct _ _ _ _ => Nat.zero_le _
  | .set _ _ => Nat.zero_le _
  | .obj _ _ => Nat.zero_le _
theorem deps_py : ∀ ds : List D, PyData.depthAll (toPys ds) ≤ deps ds
  | [] => Nat.zero_le _
  | d :: ds => by
    have h1 := dep_py d
    have h2 := deps_py ds
    simp only [toPys, PyData.depthAll, deps]
    omega
end
section
variable {X : Cx} {pins : List (Addr × Obj)} {σ : St} {H : Hp} {s : Shared}
mutual
theorem reads_of (I : L2.Inv X pins σ H s) : ∀ (d : D) {v : V} {S : List Addr} {u : Value}, Rp X.K H d v S → d.plain = true → RelV v u → ∃ as, Reads s.heap u (toPy d) as
  | .non, _, _, _, r, _, q => by
    cases r
    cases q
    exact ⟨[], .none⟩
  | .bl b, _, _, _, r, _, q => by
    cases r
    cases q
    exact ⟨[], .bool b⟩
  | .int i, _, _, _, r, _, q => by
    cases r
    obtain ⟨t, rfl⟩ := q
    exact ⟨[], .int i t⟩
  | .str z, _, _, _, r, _, q => by
    cases r
    obtain ⟨t, rfl⟩ := q
    exact ⟨[], .str z t⟩
  | .tup xs, _, _, _, r, p, q => by
    cases r with
    | tup h rs =>
      cases q
      obtain ⟨its, rv, ⟨o, h1, h2, n, h3⟩, _⟩ := I.tuple (.inl (.inl h))
      obtain ⟨as, g⟩ := reads_all I xs rs p rv
      exact ⟨as, .tuple h1 h2 h3 (by simpa using g)⟩
  | .lst f xs, _, _, _, r, p, q => by
    obtain ⟨a, vs, T, rfl, h, rs, _⟩ := r.lstI
    cases q
    obtain ⟨its, rv, hl, _⟩ := I.list h
    obtain ⟨o, h1, h2, n, h3⟩ := hl.isList
    obtain ⟨as, g⟩ := reads_all I xs rs p rv
    exact ⟨_, .list h1 h2 h3 (by simpa using g)⟩
  | .dct _ _ _ _, _, _, _, _, p, _ => by cases p
  | .set _ _, _, _, _, _, p, _ => by cases p
  | .obj _ _, _, _, _, _, p, _ => by cases p
theorem reads_all (I : L2.Inv X pins σ H s) : ∀ (ds : List D) {vs : List V} {S : List Addr} {us : List Value}, Rps X.K H ds vs S → plains ds = true → Vals vs us → ∃ as, ReadsAll s.heap us (toPys ds) as
  | [], _, _, _, r, _, q => by
    cases r
    cases q
    exact ⟨[], .nil⟩
  | d :: ds, _, _, _, r, p, q => by
    cases r with
    | cons h rs n =>
      simp only [plains, Bool.and_eq_true] at p
      cases q with
      | cons q qs =>
        obtain ⟨as, g⟩ := reads_of I d h p.1 q
        obtain ⟨bs, gs⟩ := reads_all I ds rs p.2 qs
        exact ⟨_, .cons g gs⟩
end
end


section
variable {K : PySem.W.Frag} {H : Hp}
theorem each_of : ∀ {ds : List D} {vs : List V} {us : List Value}, Rps K H ds vs [] → Vals vs us → PySem.W.EachIs (fun v d => ∃ x, Rp K H d x [] ∧ RelV x v) us ds
  | [], _, _, r, q => by
    cases r
    cases q
    exact .nil
  | d :: ds, [], _, r, _ => by have := r.length; cases this
  | d :: ds, v :: vs, _, r, q => by
    obtain ⟨r1, r2⟩ := Rps.split r
    cases q with
    | cons q qs => exact .cons ⟨v, r1, q⟩ (each_of r2 qs)
theorem of_each : ∀ {us : List Value} {ds : List D}, PySem.W.EachIs (fun v d => ∃ x, Rp K H d x [] ∧ RelV x v) us ds → ∃ vs, Rps K H ds vs [] ∧ Vals vs us
  | _, _, .nil => ⟨[], .nil, .nil⟩
  | _, _, .cons h t => by
    obtain ⟨x, r, q⟩ := h
    obtain ⟨vs, rs, qs⟩ := of_each t
    exact ⟨x :: vs, Rps.cons0 r rs, .cons q qs⟩
theorem deps_mem : ∀ {xs : List D} {x : D}, x ∈ xs → x.dep ≤ deps xs
  | y :: ys, x, m => by
    rcases List.mem_cons.mp m with rfl | m
    · simp only [deps]; omega
    · have := deps_mem m
      simp only [deps]; omega
theorem plains_mem : ∀ {xs : List D}, plains xs = true → ∀ x ∈ xs, x.plain = true
  | [], _, x, m => by simp at m
  | y :: ys, h, x, m => by
    simp only [plains, Bool.and_eq_true] at h
    rcases List.mem_cons.mp m with rfl | m
    · exact h.1
    · exact plains_mem h.2 x m
end

section
variable {X : Cx}
theorem cr_sorted (hu : X.A.units + 65 < cLine) : CallR X (.builtin "sorted") (fun vs H Q => ∃ (f : Bool) (xs : List D) (z : D) (v : V) (S : List Addr), vs = [v] ∧ Rp X.K H (.lst f xs) v S ∧ dSort xs = some z ∧ ∀ u H' T, New X.K H z u H' T → Q u H') := by
  intro pins s σ H vs us Q I r h
  obtain ⟨f, xs, z, v, S, rfl, rd, hk, q⟩ := h
  obtain ⟨a, ws, _, rfl, hl, rs, _⟩ := rd.lstI
  obtain ⟨its, rv, hL, hz⟩ := I.list hl
  rw [Vals.ref1 r]
  unfold dSort at hk
  split at hk
  case isFalse => cases hk
  rename_i c
  simp only [Bool.and_eq_true, Bool.or_eq_true, decide_eq_true_eq] at c
  obtain ⟨⟨⟨⟨⟨c1, c2⟩, c3⟩, c4⟩, c5⟩, c6⟩ := c
  cases hk
  have r0 := rs.fz_of c1
  have e := each_of r0 rv
  have pm := plains_mem c2
  have er : PySem.W.EachIs (fun u d => ∃ as, Reads s.heap u (toPy d) as) its xs := by
    clear q e c1 c4 c5 c6 c3
    have g : ∀ {ds : List D} {vs : List V} {us : List Value}, Rps X.K H ds vs [] → Vals vs us → (∀ x ∈ ds, x.plain = true) → PySem.W.EachIs (fun u d => ∃ as, Reads s.heap u (toPy d) as) us ds := by
      intro ds
      induction ds with
      | nil =>
        intro vs us r q _
        cases r
        cases q
        exact .nil
      | cons d ds ih =>
        intro vs us r q p
        cases vs with
        | nil => have := r.length; cases this
        | cons v vs =>
          obtain ⟨r1, r2⟩ := Rps.split r
          cases q with
          | cons q qs => exact .cons (reads_of I d r1 (p d List.mem_cons_self) q) (ih r2 qs fun x m => p x (List.mem_cons_of_mem _ m))
    exact g r0 rv pm
  have hal : PySem.W.AllAlike (xs.map toPy) := fun d hd d' hd' => by
    obtain ⟨b, m, rfl⟩ := List.mem_map.mp hd
    obtain ⟨b', m', rfl⟩ := List.mem_map.mp hd'
    exact List.all_eq_true.mp (List.all_eq_true.mp c5 b m) b' m'
  have hs : PySem.W.Sortable (xs.map toPy) := by
    rcases c6 with c6 | c6
    · refine .inl fun d hd => ?_
      obtain ⟨b, m, rfl⟩ := List.mem_map.mp hd
      have t := List.all_eq_true.mp c6 b m
      cases b <;> first | (cases t; done) | skip
      rename_i ys
      cases ys with
      | nil => cases t
      | cons y ys => exact ⟨_, _, rfl⟩
    · refine .inr fun d hd => ?_
      obtain ⟨b, m, rfl⟩ := List.mem_map.mp hd
      have t := List.all_eq_true.mp c6 b m
      have pl := pm b m
      cases b <;> first | (cases t; done) | (cases pl; done) | exact ⟨by simp [toPy], by intro xs; simp [toPy]⟩
  refine PySem.W.sorted_data (enc := toPy) hL.isList e er hal hs c4 (fun b m => ?_) fun out hlo eo => ?_
  · have h1 := dep_py b
    have h2 := deps_mem m
    omega
  · obtain ⟨ws', r', v'⟩ := of_each eo
    obtain ⟨ep, he'⟩ := PyProof.Rows.sortedAll_at s.heap its out.toArray
    have hlen : ws'.length ≤ sizeLine := by
      rw [v'.length, hlo]
      exact c4
    have fr : H (s.heap.objs.size + 1) = none := I.hok.fresh (Nat.le_succ _)
    refine ⟨.ref _, upd H (s.heap.objs.size + 1) (.lst ws'), I.laid (t' := s.toks) (fun _ _ => PyProof.Rows.sortedAll_old) (Nat.le_succ _) ⟨hlen, out, ep, v', he'⟩, rfl, q _ _ [s.heap.objs.size + 1] ⟨?_, ex_upd fr, fun a m => ?_⟩⟩
    · exact .lst upd_same (Rps.kp _ r' (kp_ex (ex_upd fr))) (by simp)
    · rw [List.mem_singleton.mp m]
      exact fr
end
end Aw

set_option Elab.async false
set_option linter.all false
set_option maxRecDepth 100000
set_option maxHeartbeats 4000000
/-! Ev5: built-ins and methods over data; the readings of expressions. -/
namespace Aw
open PySem L2 PySem.Spec
open PyProof.Rows hiding St

section
variable {X : Cx}
theorem rep1 {K : W.Frag} {H : Hp} {d : D} {ds : List D} {xs : List V} (h : Rep K H (d :: ds) xs) : ∃ v vs S, xs = v :: vs ∧ Rp K H d v S ∧ Rep K H ds vs := by
  cases h with
  | cons h r => obtain ⟨S, h⟩ := h; exact ⟨_, _, S, rfl, h, r⟩
theorem rep0 {K : W.Frag} {H : Hp} {xs : List V} (h : Rep K H [] xs) : xs = [] := by cases h; rfl
theorem ints_rep {K : W.Frag} {H : Hp} : ∀ {ds : List D} {ns : List Int} {vs : List V} {S : List Addr}, dInts ds = some ns → Rps K H ds vs S → vs = ns.map V.int
  | [], ns, vs, _, e, r => by cases e; cases r; rfl
  | d :: ds, ns, vs, _, e, r => by
    cases r with
    | cons h r _ =>
      cases d <;> simp only [dInts] at e <;> try contradiction
      obtain ⟨ms, e1, rfl⟩ := Option.map_eq_some_iff.mp e
      cases h
      rw [ints_rep e1 r]
      rfl
theorem bools_rep {K : W.Frag} {H : Hp} : ∀ {ds : List D} {ns : List Bool} {vs : List V} {S : List Addr}, dBools ds = some ns → Rps K H ds vs S → vs = ns.map V.bl
  | [], ns, vs, _, e, r => by cases e; cases r; rfl
  | d :: ds, ns, vs, _, e, r => by
    cases r with
    | cons h r _ =>
      cases d <;> simp only [dBools] at e <;> try contradiction
      obtain ⟨ms, e1, rfl⟩ := Option.map_eq_some_iff.mp e
      cases h
      rw [bools_rep e1 r]
      rfl
theorem strs_rep {K : W.Frag} {H : Hp} : ∀ {ds : List D} {ns : List Str} {vs : List V} {S : List Addr}, dStrs ds = some ns → Rps K H ds vs S → vs = ns.map V.str
  | [], ns, vs, _, e, r => by cases e; cases r; rfl
  | d :: ds, ns, vs, _, e, r => by
    cases r with
    | cons h r _ =>
      cases d <;> simp only [dStrs] at e <;> try contradiction
      obtain ⟨ms, e1, rfl⟩ := Option.map_eq_some_iff.mp e
      cases h
      rw [strs_rep e1 r]
      rfl
def biName : Bi → Str
  | .len => "len" | .int => "int" | .list => "list" | .tuple => "tuple" | .str => "str" | .sum => "sum" | .any => "any" | .all => "all" | .abs => "abs" | .bool => "bool" | .min2 => "min" | .max2 => "max" | .sorted => "sorted"
def biVal : Bi → Value
  | .len => .builtin "len" | .int => .type "int" | .list => .type "list" | .tuple => .type "tuple" | .str => .type "str" | .sum => .builtin "sum" | .any => .builtin "any" | .all => .builtin "all"
  | .abs => .builtin "abs" | .bool => .type "bool" | .min2 => .builtin "min" | .max2 => .builtin "max" | .sorted => .builtin "sorted"
theorem biBoot : ∀ b : Bi, bootBuiltins (biName b) = some (biVal b) := by intro b; cases b <;> decide +kernel
theorem biNn : ∀ b : Bi, biName b ≠ "__name__" := by intro b; cases b <;> decide
theorem biNd : ∀ b : Bi, (biName b == ("__debug__" : Str)) = false := by intro b; cases b <;> decide
theorem q_of {K : W.Frag} {H : Hp} {Q : VK} {z : D} {v : V} (q : ∀ v H' S, New K H z v H' S → Q v H') (h : Rp K H z v []) : Q v H := q _ _ _ (.here h)
theorem bi_ok (hc : X.calm = true) (hu : X.A.units + 65 < cLine) : ∀ b : Bi, CallR X (biVal b) (rN X.K (dBi b)) := by
  intro b pins s σ H xs us Q I r h
  obtain ⟨ds, z, hr, hk, q⟩ := h
  cases b with
  | sorted =>
    unfold dBi at hk
    split at hk <;> try contradiction
    obtain ⟨v, vs, S, rfl, h1, h2⟩ := rep1 hr
    cases rep0 h2
    exact cr_sorted hu pins s σ H _ us Q I r ⟨_, _, _, _, _, rfl, h1, hk, q⟩
  | len =>
    unfold dBi at hk
    split at hk <;> try contradiction
    obtain ⟨v, vs, S, rfl, h1, h2⟩ := rep1 hr
    cases rep0 h2
    unfold dLen at hk
    split at hk <;> try contradiction
    · split at hk <;> try contradiction
      rename_i hz
      cases hk; cases h1
      exact call_len pins s σ H _ us Q I r ⟨_, _, rfl, ⟨hz, rfl⟩, q_int q⟩
    · cases hk
      obtain ⟨a, ws, rfl, q1, g⟩ := h1.tupI
      exact call_len pins s σ H _ us Q I r ⟨_, ws.length, rfl, .inr ⟨ws, q1, rfl⟩, by rw [← g.length]; exact q_int q⟩
    · cases hk
      obtain ⟨a, ws, _, rfl, q1, g, _⟩ := h1.lstI
      exact call_len pins s σ H _ us Q I r ⟨_, ws.length, rfl, .inl ⟨ws, q1, rfl⟩, by rw [← g.length]; exact q_int q⟩
    · cases hk
      obtain ⟨a, us', u, rfl, hu', o, _⟩ := h1.dctI
      obtain rfl := Vals.ref1 r
      cases o with
      | k kvs =>
        rw [List.length_map] at q
        exact d_len I hu' fun t s' I' => ⟨.int kvs.length, _, I', ⟨t, rfl⟩, q_int q⟩
  | int =>
    unfold dBi at hk
    split at hk <;> try contradiction
    all_goals first | contradiction | skip
    · obtain ⟨v, vs, S, rfl, h1, h2⟩ := rep1 hr
      cases rep0 h2; cases hk; cases h1
      exact call_int1 pins s σ H _ us Q I r (.inl ⟨_, rfl, q_int q⟩)
    · obtain ⟨v, vs, S, rfl, h1, h2⟩ := rep1 hr
      cases rep0 h2; cases hk; cases h1
      exact call_int1 pins s σ H _ us Q I r (.inr ⟨_, rfl, q_int q⟩)
  | bool =>
    unfold dBi at hk
    split at hk <;> try contradiction
    all_goals first | contradiction | skip
    · obtain ⟨v, vs, S, rfl, h1, h2⟩ := rep1 hr
      cases rep0 h2; cases hk; cases h1
      exact call_bool1 pins s σ H _ us Q I r (.inl ⟨_, rfl, q_bl q⟩)
    · obtain ⟨v, vs, S, rfl, h1, h2⟩ := rep1 hr
      cases rep0 h2; cases hk; cases h1
      exact call_bool1 pins s σ H _ us Q I r (.inr ⟨_, rfl, q_bl q⟩)
  | list =>
    unfold dBi at hk
    split at hk <;> try contradiction
    all_goals first | contradiction | skip
    · split at hk <;> try contradiction
      rename_i hz
      obtain ⟨v, vs, S, rfl, h1, h2⟩ := rep1 hr
      cases rep0 h2; cases hk
      obtain ⟨a, ws, rfl, q1, g⟩ := h1.tupI
      exact call_list_of pins s σ H _ us Q I r ⟨a, ws, rfl, .inr q1, fun l hl => q _ _ _ (.lst hl (g.fz_of hz))⟩
    · split at hk <;> try contradiction
      rename_i hz
      obtain ⟨v, vs, S, rfl, h1, h2⟩ := rep1 hr
      cases rep0 h2; cases hk
      obtain ⟨a, ws, _, rfl, q1, g, _⟩ := h1.lstI
      exact call_list_of pins s σ H _ us Q I r ⟨a, ws, rfl, .inl q1, fun l hl => q _ _ _ (.lst hl (g.fz_of hz))⟩
  | tuple =>
    unfold dBi at hk
    split at hk <;> try contradiction
    all_goals first | contradiction | skip
    · split at hk <;> try contradiction
      rename_i hz
      obtain ⟨v, vs, S, rfl, h1, h2⟩ := rep1 hr
      cases rep0 h2; cases hk
      obtain ⟨a, ws, rfl, q1, g⟩ := h1.tupH
      exact call_tuple_of pins s σ H _ us Q I r ⟨a, ws, rfl, .inr ⟨.inl (.inl q1), q_of q (.tup q1 (g.fz_of hz))⟩⟩
    · split at hk <;> try contradiction
      rename_i hz
      obtain ⟨v, vs, S, rfl, h1, h2⟩ := rep1 hr
      cases rep0 h2; cases hk
      obtain ⟨a, ws, _, rfl, q1, g, _⟩ := h1.lstI
      exact call_tuple_of pins s σ H _ us Q I r ⟨a, ws, rfl, .inl ⟨q1, fun l hl => q _ _ _ (.tup hl (g.fz_of hz))⟩⟩
  | str =>
    unfold dBi at hk
    split at hk <;> try contradiction
    all_goals first | contradiction | skip
    split at hk <;> try contradiction
    rename_i hz
    obtain ⟨v, vs, S, rfl, h1, h2⟩ := rep1 hr
    cases rep0 h2; cases hk; cases h1
    exact call_str_int pins s σ H _ us Q I r ⟨_, rfl, hz, q_str q⟩
  | sum =>
    unfold dBi at hk
    split at hk <;> try contradiction
    all_goals first | contradiction | skip
    obtain ⟨v, vs, S, rfl, h1, h2⟩ := rep1 hr
    cases rep0 h2
    obtain ⟨ns, e1, rfl⟩ := Option.map_eq_some_iff.mp hk
    obtain ⟨a, ws, _, rfl, q1, g, _⟩ := h1.lstI
    cases ints_rep e1 g
    exact cr_sum hc pins s σ H _ us Q I r ⟨a, ns, rfl, q1, q_int q⟩
  | any =>
    unfold dBi at hk
    split at hk <;> try contradiction
    all_goals first | contradiction | skip
    obtain ⟨v, vs, S, rfl, h1, h2⟩ := rep1 hr
    cases rep0 h2
    obtain ⟨ns, e1, rfl⟩ := Option.map_eq_some_iff.mp hk
    obtain ⟨a, ws, _, rfl, q1, g, _⟩ := h1.lstI
    cases bools_rep e1 g
    exact cr_any hc pins s σ H _ us Q I r ⟨a, ns, rfl, q1, q_bl q⟩
  | all =>
    unfold dBi at hk
    split at hk <;> try contradiction
    all_goals first | contradiction | skip
    obtain ⟨v, vs, S, rfl, h1, h2⟩ := rep1 hr
    cases rep0 h2
    obtain ⟨ns, e1, rfl⟩ := Option.map_eq_some_iff.mp hk
    obtain ⟨a, ws, _, rfl, q1, g, _⟩ := h1.lstI
    cases bools_rep e1 g
    exact cr_all hc pins s σ H _ us Q I r ⟨a, ns, rfl, q1, q_bl q⟩
  | abs =>
    unfold dBi at hk
    split at hk <;> try contradiction
    all_goals first | contradiction | skip
    obtain ⟨v, vs, S, rfl, h1, h2⟩ := rep1 hr
    cases rep0 h2; cases hk; cases h1
    exact call_abs pins s σ H _ us Q I r ⟨_, rfl, q_int q⟩
  | min2 =>
    unfold dBi at hk
    split at hk <;> try contradiction
    all_goals first | contradiction | skip
    obtain ⟨v, vs, S, rfl, h1, h2⟩ := rep1 hr
    obtain ⟨v', vs', S', rfl, h1', h2⟩ := rep1 h2
    cases rep0 h2; cases hk; cases h1; cases h1'
    exact call_min2 hc pins s σ H _ us Q I r ⟨_, _, rfl, q_int q⟩
  | max2 =>
    unfold dBi at hk
    split at hk <;> try contradiction
    all_goals first | contradiction | skip
    obtain ⟨v, vs, S, rfl, h1, h2⟩ := rep1 hr
    obtain ⟨v', vs', S', rfl, h1', h2⟩ := rep1 h2
    cases rep0 h2; cases hk; cases h1; cases h1'
    exact call_max2 hc pins s σ H _ us Q I r ⟨_, _, rfl, q_int q⟩

/-! ### what type a thing is of -/
def tyN : D → String
  | .non => "NoneType" | .bl _ => "bool" | .int _ => "int" | .str _ => "str" | .tup _ => "tuple" | .lst _ _ => "list" | .dct _ _ _ _ => "dict" | .set _ _ => "set" | .obj _ _ => "object"
def tyName : Ty → String
  | .int => "int" | .bool => "bool" | .str => "str" | .tuple => "tuple" | .list => "list" | .dict => "dict"
theorem ty_kit : ∀ (t : Ty) (d : D) (b : Bool), isTy t d = some b → kitB (tyN d) (tyName t) = some b := by
  intro t d b h
  cases d with
  | dct f u ks vs => cases t <;> cases f <;> cases u <;> simp only [isTy] at h <;> cases h <;> simp only [tyN, tyName] <;> decide +kernel
  | _ => cases t <;> simp only [isTy] at h <;> cases h <;> simp only [tyN, tyName] <;> decide +kernel
theorem tyX {K : W.Frag} {H : Hp} {d : D} {v : V} {S : List Addr} {t : Ty} {b : Bool} (h : Rp K H d v S) (hb : isTy t d = some b) : TyX K H v (.type (tyN d)) := by
  cases h with
  | non => exact .base .non
  | bl b => exact .base (.bl b)
  | int b => exact .base (.int b)
  | str b => exact .base (.str b)
  | tup q r => exact .base (.tup q)
  | dct q o r =>
    cases o with
    | k => exact .base (.dK q)
    | t => exact .base (.dT q)
  | dcf q o r =>
    cases o with
    | k => exact .fDict q
    | t => cases t <;> simp [isTy] at hb
  | frz q r =>
    rcases q with ⟨o, q⟩ | ⟨o, us, n, e1, e2, _⟩
    · exact .base (.frz q)
    · exact .kList e1 e2
  | lst q r n => exact .base (.lst q)

/-! ### methods of texts -/
theorem mt_d : MtR X "str.join" (fun x xs H Q => ∃ a ds z, x = .str a ∧ Rep X.K H ds xs ∧ dMt .join a ds = some z ∧ ∀ v H' S, New X.K H z v H' S → Q v H') := by
  intro pins s σ H x xs v us Q I rx rs h
  obtain ⟨a, ds, z, rfl, hr, hk, q⟩ := h
  unfold dMt at hk
  split at hk <;> try contradiction
  all_goals first | contradiction | skip
  · split at hk <;> try contradiction
    rename_i ys e
    split at hk <;> try contradiction
    rename_i hz
    cases hk
    obtain ⟨w, ws, T, rfl, h1, h2⟩ := rep1 hr
    cases rep0 h2
    obtain ⟨p, vs, rfl, q1, g⟩ := h1.tupI
    cases strs_rep e g
    exact mt_join pins s σ H _ _ v us Q I rx rs ⟨_, p, ys, rfl, rfl, .inr q1, hz, q_str q⟩
  · split at hk <;> try contradiction
    rename_i ys e
    split at hk <;> try contradiction
    rename_i hz
    cases hk
    obtain ⟨w, ws, T, rfl, h1, h2⟩ := rep1 hr
    cases rep0 h2
    obtain ⟨p, vs, _, rfl, q1, g, _⟩ := h1.lstI
    cases strs_rep e g
    exact mt_join pins s σ H _ _ v us Q I rx rs ⟨_, p, ys, rfl, rfl, .inl q1, hz, q_str q⟩
/-! ### truth -/
theorem emp_len {α β : Type} {ds : List α} {vs : List β} (h : ds.length = vs.length) : (!ds.isEmpty) = !vs.isEmpty := by
  cases ds <;> cases vs <;> simp_all
theorem tru_d {K : W.Frag} {H : Hp} {d : D} {v : V} {S : List Addr} {b : Bool} (h : Rp K H d v S) (e : dTru d = some b) : TruV K v H b := by
  cases h with
  | non => cases e; rfl
  | bl b => cases e; rfl
  | int i => cases e; rfl
  | str z =>
    simp only [dTru] at e
    split at e <;> try contradiction
    rename_i hz
    cases e
    exact ⟨hz, rfl⟩
  | tup q r =>
    cases e
    refine .inr (.inl ⟨_, .inl (.inl q), ?_⟩)
    exact emp_len r.length
  | frz q r =>
    cases e
    refine .inl ⟨_, q.l, ?_⟩
    exact emp_len r.length
  | lst q r n =>
    cases e
    refine .inl ⟨_, .inl (.inl q), ?_⟩
    exact emp_len r.length
  | dcf q o r => simp [dTru] at e
  | @dct a t ks ds us u q o r =>
    cases t with
    | true => simp [dTru] at e
    | false =>
      cases o with
      | k kvs =>
        cases e
        refine .inr (.inr ⟨_, q, ?_⟩)
        cases kvs <;> rfl
end
end Aw

set_option Elab.async false
set_option linter.all false
set_option maxRecDepth 100000
set_option maxHeartbeats 4000000
/-! Ev6: the readings of expressions, one construct after another. -/
namespace Aw
open PySem L2 PySem.Spec
open PyProof.Rows hiding St

section
variable {K : W.Frag} {C : Ct} {σ0 : St} {H H1 H2 H3 : Hp} {O O1 O2 : Nat → List Addr} {ρ ρ1 ρ2 : Env} {σ σ1 σ2 : St} {S S1 S2 T : List Addr}
/-- what a value that has come makes of the situation -/
theorem Sit.ext {z : D} {v : V} (a : Sit K C σ0 H O ρ1 σ1 H1 O1 S1) (n : New K H1 z v H2 S2) : Sit K C σ0 H O ρ1 σ1 H2 O1 S2 := by
  have fresh : ∀ x, H1 x = none → H x = none ∨ ∃ i, x ∈ O i := fun x e => by
    cases q : H x with
    | none => exact .inl rfl
    | some o =>
      by_cases c : ∃ i, x ∈ O i
      · exact .inr c
      · have w := a.st.fr x o q fun i m => c ⟨i, m⟩
        rw [e] at w
        cases w
  refine ⟨a.en.kp fun x o e _ => n.ex x o e, fun x m i z => ?_, fun x m => Rp.mu _ n.rp x m, fun x o e z => n.ex x o (a.st.fr x o e z), fun x z => ?_⟩
  · obtain ⟨xs, e⟩ := a.en.mu i x z
    rw [n.nw x m] at e
    cases e
  · rcases z with z | z
    · exact fresh x (n.nw x z)
    · exact a.st.nw x (.inr z)
theorem pe_imp {X : Cx} {e : Expr} {t t' : TE} (h : PE X e t) (i : ∀ σ H Q, t' σ H Q → t σ H Q) : PE X e t' := ⟨fun pins s σ H Q I w => h.run pins s σ H Q I (i σ H Q w)⟩
theorem pt_imp {X : Cx} {e : Expr} {t t' : TT} (h : PT X e t) (i : ∀ σ H Q, t' σ H Q → t σ H Q) : PT X e t' := ⟨fun pins s σ H Q I w => h.run pins s σ H Q I (i σ H Q w)⟩
theorem pw_imp {X : Cx} {e : Expr} {t t' : TT} (h : PW X e t) (i : ∀ σ H Q, t' σ H Q → t σ H Q) : PW X e t' := ⟨fun wh pins s σ H Q I w => h.run wh pins s σ H Q I (i σ H Q w)⟩
variable {W : WX}
theorem val_ok {o : Opd} {v : V} {k : D → Option D} {Q : VK} (a : Sit K C σ0 H O ρ1 σ H1 O1 S1) (r : rO K H1 σ o v T) (h : Wg (rO K) K C σ0 W σ H O (val o ρ1 k) Q) : r1 K k v H1 Q := by
  unfold val at h
  cases e1 : o.get ρ1 with
  | none => rw [e1] at h; exact h.elim
  | some d =>
    rw [e1] at h
    dsimp only at h
    cases e2 : k d with
    | none => rw [e2] at h; exact h.elim
    | some z =>
      rw [e2] at h
      obtain ⟨T', r'⟩ := a.get r e1
      exact ⟨d, T', z, r', e2, fun w H' S' n => h w H' O1 S' n.rp (a.ext n)⟩
theorem two_ok {o p : Opd} {v u : V} {k : D → D → Option D} {Q : VK} {T' : List Addr} (a : Sit K C σ0 H O ρ1 σ H1 O1 S1) (r : rO K H1 σ o v T) (r' : rO K H1 σ p u T') (h : Wg (rO K) K C σ0 W σ H O (two o p ρ1 k) Q) : r2 K k v u H1 Q := by
  unfold two at h
  cases e1 : o.get ρ1 with
  | none => rw [e1] at h; exact h.elim
  | some d =>
    cases e2 : p.get ρ1 with
    | none => rw [e1, e2] at h; exact h.elim
    | some e =>
      rw [e1, e2] at h
      dsimp only at h
      cases e3 : k d e with
      | none => rw [e3] at h; exact h.elim
      | some z =>
        rw [e3] at h
        obtain ⟨U, g⟩ := a.get r e1
        obtain ⟨U', g'⟩ := a.get r' e2
        exact ⟨d, e, U, U', z, g, g', e3, fun w H' S' n => h w H' O1 S' n.rp (a.ext n)⟩
end
section
variable {X : Cx} {C : Ct} {σ0 : St} {W : WX} {e a b c : Expr} {f g h : Env → R Opd}
abbrev TEx (X : Cx) (C : Ct) (σ0 : St) (W : WX) (f : Env → R Opd) : TE := tE X.K C σ0 W f
/-- two operands, one operation -/
theorem pe_two {k : D → D → Option D} (op : ∀ {ta tb : TE}, PE X a ta → PE X b tb → PE X e (tOp (r2 X.K k) ta tb)) (ha : PE X a (TEx X C σ0 W f)) (hb : PE X b (TEx X C σ0 W g)) :
    PE X e (TEx X C σ0 W fun ρ => (f ρ).bind fun x ρ1 => (g ρ1).bind fun y ρ2 => two x y ρ2 k) := pe_imp (op ha hb) fun σ H Q w => by
  obtain ⟨ρ, O, en, w⟩ := w
  refine seq (Sit.start en) w fun x ρ1 w1 v H1 O1 S1 r1 s1 => ?_
  refine seq s1 w1 fun y ρ2 w2 u H2 O2 S2 q2 s2 => ?_
  exact two_ok (s1.trans s2) (s1.carry s2 r1 fun x m => m) q2 w2
theorem pt_two {k : D → D → Option Bool} (op : ∀ {ta tb : TE}, PE X a ta → PE X b tb → PT X e (tTest (tOp (r2 X.K fun d e => (k d e).map D.bl) ta tb))) (ha : PE X a (TEx X C σ0 W f)) (hb : PE X b (TEx X C σ0 W g)) :
    PT X e (tB' X.K C σ0 W fun ρ => (f ρ).bind fun x ρ1 => (g ρ1).bind fun y ρ2 => two x y ρ2 fun d e => (k d e).map D.bl) := pt_imp (op ha hb) fun σ H Q w => by
  obtain ⟨ρ, O, en, w⟩ := w
  refine seq (Sit.start en) w fun x ρ1 w1 v H1 O1 S1 r1 s1 => ?_
  refine seq s1 w1 fun y ρ2 w2 u H2 O2 S2 q2 s2 => ?_
  exact two_ok (s1.trans s2) (s1.carry s2 r1 fun x m => m) q2 w2
theorem pe_one' {k : D → Option D} (op : ∀ {ta : TE}, PE X a ta → PE X e (tUn (r1 X.K k) ta)) (ha : PE X a (TEx X C σ0 W f)) :
    PE X e (TEx X C σ0 W fun ρ => (f ρ).bind fun x ρ1 => val x ρ1 k) := pe_imp (op ha) fun σ H Q w => by
  obtain ⟨ρ, O, en, w⟩ := w
  refine seq (Sit.start en) w fun x ρ1 w1 v H1 O1 S1 r1 s1 => ?_
  exact val_ok s1 r1 w1
/-- a value as a test -/
theorem pt_fin (ha : PE X e (TEx X C σ0 W f)) (he : ∀ whole, isTrue e X.env whole = (do let v ← whole; standAt e.pos; holding [v] (truthy v))) :
    PT X e (tB' X.K C σ0 W fun ρ => fin .test (f ρ)) := pt_imp (pt_truth ha he) fun σ H Q w => by
  obtain ⟨ρ, O, en, w⟩ := w
  refine seq (rep' := rO X.K) (Sit.start en) w fun x ρ1 w1 v H1 O1 S1 r1 s1 => ?_
  obtain ⟨d, T, z, hd, hk, q⟩ := val_ok s1 r1 w1
  obtain ⟨b, hb, rfl⟩ := map_bl hk
  obtain ⟨b', eb, q'⟩ := q_bl q
  cases eb
  exact ⟨b, tru_d hd hb, q'⟩
theorem pe_cst {d : D} {v : V} (h : PE X e (tC v)) (r : ∀ H, Rp X.K H d v []) : PE X e (TEx X C σ0 W fun ρ => .ok (.own d) ρ) := pe_imp h fun σ H Q w => by
  obtain ⟨ρ, O, en, w⟩ := w
  exact w v H O [] (r H) (Sit.start en)
theorem pe_varR {i : Nat} {md : Md} (hm : md ≠ .keep) (h : PE X e (tVar i)) : PE X e (TEx X C σ0 W fun ρ => evVar i md ρ) := pe_imp h fun σ H Q w => by
  obtain ⟨ρ, O, en, w⟩ := w
  cases q : gt ρ i with
  | none => cases md <;> simp [evVar, q] at w <;> first | exact w.elim | exact absurd rfl hm
  | some d =>
    obtain ⟨v, e1, r⟩ := en.rep i d q
    have w' : Wg (rO X.K) X.K C σ0 W σ H O (.ok (.sl i) ρ) Q := by
      cases md <;> simp [evVar, q] at w <;> first | exact w | exact absurd rfl hm
    exact ⟨v, e1, w' v H O [] ⟨rfl, e1⟩ (Sit.start en)⟩
/-! ### freezing -/
theorem frz_one {pins : List (Addr × Obj)} {σ : St} {H : Hp} {s : Shared} {p : Addr} {xs : List V} (I : Inv X pins σ H s) (h : H p = some (.lst xs)) : ∃ o, Inv X pins σ (upd H p (.frz o (.lst xs))) s := by
  obtain ⟨z, us, n, r, q⟩ := I.hok p _ h
  refine ⟨{ cls := .type "list", data := .seq us.toArray n }, ?_⟩
  exact I.write (x := p) (e := p) (h' := s.heap) (t' := s.toks) (by rw [h]; exact trivial) (.inl rfl) (fun b u _ w => w) ⟨_, q⟩ ⟨q, z, us, n, r, q⟩
theorem DicO.fzk {t : Bool} {ks : List D} {us : List V} {u : HO} (h : DicO t ks us u) : fzs ks = ks := by
  cases h with
  | k kvs =>
    induction kvs with
    | nil => rfl
    | cons p r ih =>
      simp only [List.map_cons, fzs, ih]
      cases p.1 <;> rfl
  | t kvs =>
    induction kvs with
    | nil => rfl
    | cons p r ih => simp only [List.map_cons, fzs, ih, D.fz, fzs_keyD]
theorem frz_dic {pins : List (Addr × Obj)} {σ : St} {H : Hp} {s : Shared} {p : Addr} {t : Bool} {ks : List D} {us : List V} {u : HO} (I : Inv X pins σ H s) (h : H p = some u) (o : DicO t ks us u) : ∃ ob, Inv X pins σ (upd H p (.frz ob u)) s := by
  cases o with
  | k kvs =>
    obtain ⟨z, hd, vs, rel, ob, es, ep, e, c⟩ := I.hok p _ h
    exact ⟨ob, I.write (x := p) (e := p) (h' := s.heap) (t' := s.toks) (by rw [h]; exact trivial) (.inl rfl) (fun b u _ w => w) ⟨_, e⟩ ⟨e, z, hd, vs, rel, ob, es, ep, e, c⟩⟩
  | t kvs =>
    obtain ⟨z, hd, xs, rel, ob, es, ep, e, c⟩ := I.hok p _ h
    exact ⟨ob, I.write (x := p) (e := p) (h' := s.heap) (t' := s.toks) (by rw [h]; exact trivial) (.inl rfl) (fun b u _ w => w) ⟨_, e⟩ ⟨e, z, hd, xs, L2.Paired.mapP rel fun a b w => ⟨w.1, by rw [upd_ne (ne_of w.2.1 h (fun z => nomatch z))]; exact w.2.1, w.2.2⟩, ob, es, ep, e, c⟩⟩
/-- what stays when the owned things are frozen -/
structure Fz (H H' : Hp) (S : List Addr) : Prop where
  out : ∀ a, a ∉ S → H' a = H a
  inn : ∀ a, a ∈ S → ∃ o u, H' a = some (.frz o u)
mutual
theorem freeze {pins : List (Addr × Obj)} {σ : St} {s : Shared} : ∀ (d : D) {H : Hp} {v : V} {S : List Addr}, Inv X pins σ H s → Rp X.K H d v S → ∃ H', Inv X pins σ H' s ∧ Rp X.K H' d.fz v [] ∧ Fz H H' S
  | .non, H, _, _, I, h => by cases h; exact ⟨H, I, .non, fun _ _ => rfl, by simp⟩
  | .bl b, H, _, _, I, h => by cases h; exact ⟨H, I, .bl b, fun _ _ => rfl, by simp⟩
  | .int b, H, _, _, I, h => by cases h; exact ⟨H, I, .int b, fun _ _ => rfl, by simp⟩
  | .str b, H, _, _, I, h => by cases h; exact ⟨H, I, .str b, fun _ _ => rfl, by simp⟩
  | .tup ds, H, _, S, I, h => by
    cases h with
    | tup h r =>
      obtain ⟨H', I', r', z⟩ := freezes ds I r
      refine ⟨H', I', .tup ?_ r', z⟩
      rw [z.out _ fun m => ?_]
      · exact h
      · obtain ⟨xs, e'⟩ := Rps.mu ds r _ m
        rw [h] at e'
        cases xs <;> cases e'
  | .lst true ds, H, _, _, I, h => by
    cases h with
    | frz h r =>
      obtain ⟨H', I', r', z⟩ := freezes ds I r
      refine ⟨H', I', .frz ?_ r', z⟩
      rcases h with ⟨o, h⟩ | h
      · exact .inl ⟨o, by rw [z.out _ (by simp)]; exact h⟩
      · exact .inr h
  | .lst false ds, H, _, _, I, h => by
    cases h with
    | @lst p _ vs S h r n =>
      obtain ⟨H', I', r', z⟩ := freezes ds I r
      have hp : H' p = some (.lst vs) := by rw [z.out p n]; exact h
      obtain ⟨o, I2⟩ := frz_one I' hp
      refine ⟨_, I2, .frz (.inl ⟨o, upd_same⟩) (Rps.kp _ r' fun a u e w => ?_), fun a m => ?_, fun a m => ?_⟩
      · rcases w with w | w
        · rw [upd_ne fun q => ?_]
          · exact e
          · subst q
            rw [hp] at e
            cases e
            exact w
        · simp at w
      · rw [List.mem_cons, not_or] at m
        rw [upd_ne m.1]
        exact z.out a m.2
      · by_cases q : a = p
        · subst q
          exact ⟨o, .lst vs, upd_same⟩
        · rw [upd_ne q]
          rcases List.mem_cons.mp m with m | m
          · exact absurd m q
          · exact z.inn a m
  | .dct true t ks ds, H, _, _, I, h => by
    cases h with
    | dcf h o r =>
      obtain ⟨H', I', r', z⟩ := freezes ds I r
      refine ⟨H', I', ?_, z⟩
      show Rp X.K H' (.dct true t (fzs ks) (fzs ds)) _ _
      rw [o.fzk]
      exact .dcf (by rw [z.out _ (by simp)]; exact h) o r'
  | .dct false t ks ds, H, _, _, I, h => by
    cases h with
    | @dct p _ _ _ us u h o r =>
      obtain ⟨H', I', r', z⟩ := freezes ds I r
      have hp : H' p = some u := by rw [z.out p (by simp)]; exact h
      obtain ⟨ob, I2⟩ := frz_dic I' hp o
      refine ⟨_, I2, ?_, fun a m => ?_, fun a m => ?_⟩
      · show Rp X.K _ (.dct true t (fzs ks) (fzs ds)) _ _
        rw [o.fzk]
        refine .dcf upd_same o (Rps.kp _ r' fun a v e w => ?_)
        rw [upd_ne fun q => ?_]
        · exact e
        · subst q
          rw [hp] at e
          cases e
          obtain ⟨m, rfl⟩ := o.mu
          rcases w with w | w
          · exact m.np w
          · simp at w
      · rw [upd_ne fun q => m (by rw [q]; exact List.mem_singleton_self _)]
        exact z.out a (by simp)
      · obtain rfl := List.mem_singleton.mp m
        exact ⟨ob, u, upd_same⟩
  | .set _ _, _, _, _, _, h => nomatch h
  | .obj _ _, _, _, _, _, h => nomatch h
theorem freezes {pins : List (Addr × Obj)} {σ : St} {s : Shared} : ∀ (ds : List D) {H : Hp} {vs : List V} {S : List Addr}, Inv X pins σ H s → Rps X.K H ds vs S → ∃ H', Inv X pins σ H' s ∧ Rps X.K H' (fzs ds) vs [] ∧ Fz H H' S
  | [], H, _, _, I, h => by cases h; exact ⟨H, I, .nil, fun _ _ => rfl, by simp⟩
  | d :: ds, H, _, _, I, h => by
    cases h with
    | @cons _ _ S _ _ T h r n =>
      obtain ⟨H1, I1, r1, z1⟩ := freeze d I h
      have r' : Rps X.K H1 ds _ T := Rps.kp ds r fun a o e p => by
        rw [z1.out a fun m => ?_]
        · exact e
        · rcases p with p | p
          · obtain ⟨xs, e'⟩ := Rp.mu d h a m
            rw [e] at e'
            cases e'
            exact xs.np p
          · exact n a m p
      obtain ⟨H2, I2, r2, z2⟩ := freezes ds I1 r'
      refine ⟨H2, I2, .cons0 (Rp.kp _ r1 fun a o e p => ?_) r2, fun a m => ?_, fun a m => ?_⟩
      · rw [z2.out a fun m => ?_]
        · exact e
        · obtain ⟨xs, e'⟩ := Rps.mu ds r' a m
          rw [e] at e'
          cases e'
          rcases p with p | p
          · exact xs.np p
          · simp at p
      · rw [List.mem_append, not_or] at m
        rw [z2.out a m.2, z1.out a m.1]
      · by_cases q : a ∈ T
        · exact z2.inn a q
        · rw [z2.out a q]
          rcases List.mem_append.mp m with m | m
          · exact z1.inn a m
          · exact absurd m q
end
theorem gt_set {ρ : Env} {i j : Nat} {o : Option D} (h : i < ρ.length) : gt (ρ.set i o) j = if j = i then o else gt ρ j := by
  unfold gt
  rw [List.getElem?_set]
  by_cases q : i = j
  · subst q
    simp [h]
  · simp [q, Ne.symm q]
theorem gt_lt {ρ : Env} {i : Nat} {d : D} (h : gt ρ i = some d) : i < ρ.length := by
  unfold gt at h
  split at h <;> try contradiction
  rename_i q
  exact (List.getElem?_eq_some_iff.mp q).1
/-- one slot's things are frozen -/
theorem frz_slot {pins : List (Addr × Obj)} {σ : St} {H : Hp} {s : Shared} {O : Nat → List Addr} {ρ : Env} {i : Nat} {d : D} (I : Inv X pins σ H s) (en : En X.K C σ0 H ρ σ O) (e : gt ρ i = some d) :
    ∃ H' v O', Inv X pins σ H' s ∧ σ[i]? = some (some v) ∧ Rp X.K H' d.fz v [] ∧ Sit X.K C σ0 H O (ρ.set i (some d.fz)) σ H' O' [] := by
  obtain ⟨v, e1, r⟩ := en.rep i d e
  obtain ⟨H', I', r', z⟩ := freeze d I r
  have hi := gt_lt e
  refine ⟨H', v, fun j => if j = i then [] else O j, I', e1, r', ⟨by simpa using en.len, fun j x q => ?_, fun j k a m m' => ?_, fun j a m => ?_, en.pin⟩, by simp, by simp, fun a o h n => ?_, fun a m => ?_⟩
  · rw [gt_set hi] at q
    by_cases c : j = i
    · subst c
      rw [if_pos rfl] at q
      cases q
      exact ⟨v, e1, by rw [if_pos rfl]; exact r'⟩
    · rw [if_neg c] at q
      obtain ⟨w, e2, rw'⟩ := en.rep j x q
      refine ⟨w, e2, ?_⟩
      rw [if_neg c]
      refine Rp.kp x rw' fun a o h p => ?_
      rw [z.out a fun m => ?_]
      · exact h
      · rcases p with p | p
        · obtain ⟨xs, e'⟩ := Rp.mu d r a m
          rw [h] at e'
          cases e'
          exact xs.np p
        · exact c (en.dj j i a p m)
  · by_cases c : j = i
    · rw [if_pos c] at m
      simp at m
    · by_cases c' : k = i
      · rw [if_pos c'] at m'
        simp at m'
      · rw [if_neg c] at m
        rw [if_neg c'] at m'
        exact en.dj j k a m m'
  · by_cases c : j = i
    · rw [if_pos c] at m
      simp at m
    · rw [if_neg c] at m
      obtain ⟨xs, h⟩ := en.mu j a m
      refine ⟨xs, ?_⟩
      rw [z.out a fun m' => c (en.dj j i a m m')]
      exact h
  · rw [z.out a (n i)]
    exact h
  · rcases m with m | ⟨j, m⟩
    · simp at m
    · by_cases c : j = i
      · rw [if_pos c] at m
        simp at m
      · rw [if_neg c] at m
        exact .inr ⟨j, m⟩
theorem pe_varK {i : Nat} (h : PE X e (tVar i)) : PE X e (TEx X C σ0 W fun ρ => evVar i .keep ρ) := by
  refine ⟨fun pins s σ H Q I w => ?_⟩
  obtain ⟨ρ, O, en, w⟩ := w
  cases q : gt ρ i with
  | none => simp [evVar, q] at w; exact w.elim
  | some d =>
    by_cases z : d.fzn = true
    · simp [evVar, q, z] at w
      obtain ⟨v, e1, r⟩ := en.rep i d q
      exact h.run pins s σ H Q I ⟨v, e1, w v H O [] (r.fz_of z) (Sit.start en)⟩
    · simp [evVar, q, z] at w
      obtain ⟨H', v, O', I', e1, r', s'⟩ := frz_slot I en q
      exact h.run pins s σ H' Q I' ⟨v, e1, w v H' O' [] r' s'⟩
theorem pe_frz (h : PE X e (TEx X C σ0 W f)) : PE X e (TEx X C σ0 W fun ρ => (f ρ).bind frzO) := by
  refine ⟨fun pins s σ H Q I w => ?_⟩
  obtain ⟨ρ, O, en, w⟩ := w
  have w : Wg (rO X.K) X.K C σ0 W σ H O ((f ρ).bind frzO) Q := w
  cases q : f ρ with
  | stuck => rw [q] at w; exact w.elim
  | exc x ρ1 =>
    rw [q] at w
    exact h.run pins s σ H Q I ⟨ρ, O, en, by rw [q]; exact w⟩
  | ok o ρ1 =>
    rw [q] at w
    cases o with
    | sl i => exact w.elim
    | own d =>
      have w : ∀ b H' O' S', Rp X.K H' d.fz b S' → Sit X.K C σ0 H O ρ1 σ H' O' S' → Q b H' := w
      have r := h.run pins s σ H (fun v H' => ∃ O' S', Rp X.K H' d v S' ∧ Sit X.K C σ0 H O ρ1 σ H' O' S') I ⟨ρ, O, en, by rw [q]; exact fun v H' O' S' r s => ⟨O', S', r, s⟩⟩
      refine thn r fun u s' z => ?_
      obtain ⟨v, H', I', rv, O', S', rp, st⟩ := z
      obtain ⟨H'', I'', rp', z⟩ := freeze d I' rp
      refine ⟨v, H'', I'', rv, w v H'' O' [] rp' ⟨st.en.kp fun a o e p => ?_, by simp, by simp, fun a o e n => ?_, fun a m => st.st.nw a (.inr (by simpa using m))⟩⟩
      · rw [z.out a fun m => ?_]
        · exact e
        · rcases p with p | ⟨i, p⟩
          · obtain ⟨xs, e'⟩ := st.mu a m
            rw [e] at e'
            cases e'
            exact xs.np p
          · exact st.dj a m i p
      · rw [z.out a fun m => ?_]
        · exact st.st.fr a o e n
        · rcases st.st.nw a (.inl m) with z | ⟨i, z⟩
          · rw [z] at e; cases e
          · exact n i z
end
end Aw

set_option Elab.async false
set_option linter.all false
set_option maxRecDepth 100000
set_option maxHeartbeats 800000
/-! Ev7: the readings of expressions: tests, displays, calls. -/
namespace Aw
open PySem L2 PySem.Spec
open PyProof.Rows hiding St

section
variable {X : Cx} {C : Ct} {σ0 : St} {W : WX} {e a b c : Expr} {f g h : Env → R Opd} {pos : Pos} {rest : List Expr}
abbrev TBx (X : Cx) (C : Ct) (σ0 : St) (W : WX) (f : Env → R Opd) : TT := tB' X.K C σ0 W f
/-- an answer that a test has given -/
theorem test_seq {K : PySem.W.Frag} {H H1 : Hp} {O O1 : Nat → List Addr} {ρ1 : Env} {σ : St} {S1 : List Addr} {γ δ : Type} {rep' : Rl γ δ} {g : Env → R Opd} {k : Opd → Env → R γ} {QQ : δ → Hp → Prop} {Q : Bool → Hp → Prop} (s : Sit K C σ0 H O ρ1 σ H1 O1 S1)
    (w : Wg rep' K C σ0 W σ H O ((g ρ1).bind k) QQ) (only : ∀ x ρ2, g ρ1 = .ok x ρ2 → ∀ {q}, Wg rep' K C σ0 W σ H O (k x ρ2) q → ∃ t, x = .own (.bl t))
    (hk : ∀ t ρ2, Wg rep' K C σ0 W σ H O (k (.own (.bl t)) ρ2) QQ → ∀ H2 O2, Sit K C σ0 H1 O1 ρ2 σ H2 O2 [] → Q t H2) : tB' K C σ0 W g σ H1 Q := by
  refine ⟨ρ1, O1, s.en, ?_⟩
  cases q : g ρ1 with
  | ok y ρ2 =>
    rw [q] at w
    obtain ⟨t, rfl⟩ := only y ρ2 q w
    intro v H' O' S' r s'
    have r' : Rp K H' (.bl t) v S' := r
    cases r'
    exact ⟨t, rfl, hk t ρ2 w H' O' s'⟩
  | exc x ρ2 =>
    rw [q] at w
    intro cls d H' O' hx s'
    exact w cls d H' O' hx (s.trans s').drop
  | stuck =>
    rw [q] at w
    exact w
abbrev isBl {α : Type} (k : Bool → R α) (x : Opd) : R α := match x with
  | .own (.bl t) => k t
  | _ => .stuck
theorem isBl_only {K : PySem.W.Frag} {H : Hp} {O : Nat → List Addr} {σ : St} {γ δ : Type} {rep' : Rl γ δ} {k : Bool → R γ} {x : Opd} {q : δ → Hp → Prop} (w : Wg rep' K C σ0 W σ H O (isBl k x) q) : ∃ t, x = .own (.bl t) := by
  cases x with
  | sl i => exact w.elim
  | own d => cases d <;> first | exact ⟨_, rfl⟩ | exact w.elim
/-- not, as a test -/
theorem pt_not' (ha : PT X a (TBx X C σ0 W f)) : PT X (.UnaryOp .Not a pos) (TBx X C σ0 W fun ρ => (f ρ).bind fun x ρ1 => isBl (fun t => .ok (.own (.bl !t)) ρ1) x) := pt_imp (pt_not ha) fun σ H Q w => by
  obtain ⟨ρ, O, en, w⟩ := w
  refine test_seq (Sit.start en) w (fun x ρ2 _ q w2 => isBl_only w2) fun t ρ2 w2 H2 O2 s2 => ?_
  obtain ⟨b, eb, q⟩ := w2 (.bl !t) H2 O2 [] (.bl _) s2
  cases eb
  exact q
/-- and, or, as tests -/
theorem pw_and' (ha : PT X a (TBx X C σ0 W f)) (hb : PW X (.BoolOp .And (b :: rest) pos) (TBx X C σ0 W g)) :
    PW X (.BoolOp .And (a :: b :: rest) pos) (TBx X C σ0 W fun ρ => (f ρ).bind fun x ρ1 => isBl (fun t => if t == true then g ρ1 else .ok (.own (.bl t)) ρ1) x) := pw_imp (pw_and ha hb) fun σ H Q w => by
  obtain ⟨ρ, O, en, w⟩ := w
  refine test_seq (Sit.start en) w (fun x ρ2 _ q w2 => isBl_only w2) fun t ρ2 w2 H2 O2 s2 => ?_
  cases t with
  | true =>
    show TBx X C σ0 W g σ H2 Q
    refine ⟨ρ2, O2, s2.en, ?_⟩
    have w3 : Wg (rO X.K) X.K C σ0 W σ H O (g ρ2) fun v H' => ∃ b, v = .bl b ∧ Q b H' := w2
    cases q : g ρ2 with
    | ok y ρ3 => rw [q] at w3; exact fun v H' O' S' r s' => w3 v H' O' S' r ((s2.trans s').sub fun x m => by simpa using m)
    | exc x ρ3 => rw [q] at w3; exact fun cls d H' O' hx s' => w3 cls d H' O' hx (s2.trans s').drop
    | stuck => rw [q] at w3; exact w3
  | false =>
    show Q false H2
    obtain ⟨b, eb, q⟩ := w2 (.bl false) H2 O2 [] (.bl _) s2
    cases eb
    exact q
theorem pw_or' (ha : PT X a (TBx X C σ0 W f)) (hb : PW X (.BoolOp .Or (b :: rest) pos) (TBx X C σ0 W g)) :
    PW X (.BoolOp .Or (a :: b :: rest) pos) (TBx X C σ0 W fun ρ => (f ρ).bind fun x ρ1 => isBl (fun t => if t == false then g ρ1 else .ok (.own (.bl t)) ρ1) x) := pw_imp (pw_or ha hb) fun σ H Q w => by
  obtain ⟨ρ, O, en, w⟩ := w
  refine test_seq (Sit.start en) w (fun x ρ2 _ q w2 => isBl_only w2) fun t ρ2 w2 H2 O2 s2 => ?_
  cases t with
  | false =>
    show TBx X C σ0 W g σ H2 Q
    refine ⟨ρ2, O2, s2.en, ?_⟩
    have w3 : Wg (rO X.K) X.K C σ0 W σ H O (g ρ2) fun v H' => ∃ b, v = .bl b ∧ Q b H' := w2
    cases q : g ρ2 with
    | ok y ρ3 => rw [q] at w3; exact fun v H' O' S' r s' => w3 v H' O' S' r ((s2.trans s').sub fun x m => by simpa using m)
    | exc x ρ3 => rw [q] at w3; exact fun cls d H' O' hx s' => w3 cls d H' O' hx (s2.trans s').drop
    | stuck => rw [q] at w3; exact w3
  | true =>
    show Q true H2
    obtain ⟨b, eb, q⟩ := w2 (.bl true) H2 O2 [] (.bl _) s2
    cases eb
    exact q
/-- the same way on from a later situation -/
theorem Wg.on {α β : Type} {rep : Rl α β} {K : PySem.W.Frag} {H H1 : Hp} {O O1 : Nat → List Addr} {ρ1 : Env} {σ : St} {r : R α} {Q : β → Hp → Prop} (s : Sit K C σ0 H O ρ1 σ H1 O1 []) (w : Wg rep K C σ0 W σ H O r Q) : Wg rep K C σ0 W σ H1 O1 r Q := by
  cases r with
  | ok y ρ3 => exact fun v H' O' S' r s' => w v H' O' S' r ((s.trans s').sub fun x m => by simpa using m)
  | exc x ρ3 => exact fun cls d H' O' hx s' => w cls d H' O' hx (s.trans s').drop
  | stuck => exact w
/-- a if t else b -/
theorem pe_ite' (hc : PT X c (TBx X C σ0 W f)) (ha : PE X a (TEx X C σ0 W g)) (hb : PE X b (TEx X C σ0 W h)) :
    PE X (.IfExp c a b pos) (TEx X C σ0 W fun ρ => (f ρ).bind fun x ρ1 => match x with | .own (.bl true) => g ρ1 | .own (.bl false) => h ρ1 | _ => .stuck) := pe_imp (pe_ifExp hc ha hb) fun σ H Q w => by
  obtain ⟨ρ, O, en, w⟩ := w
  refine test_seq (Sit.start en) w (fun x ρ2 _ q w2 => ?_) fun t ρ2 w2 H2 O2 s2 => ?_
  · cases x with
    | sl i => exact w2.elim
    | own d => cases d <;> first | exact ⟨_, rfl⟩ | exact w2.elim
  · cases t with
    | true => exact ⟨ρ2, O2, s2.en, Wg.on s2 w2⟩
    | false => exact ⟨ρ2, O2, s2.en, Wg.on s2 w2⟩
/-- and, or as values -/
def bopK (g : Env → R Opd) (k : Bool) (x : Opd) (ρ1 : Env) : R Opd := match (x.get ρ1).bind dTru with
  | some t => if t == k then g ρ1 else .ok x ρ1
  | none => .stuck
theorem bop_ok {k : Bool} {K : PySem.W.Frag} {H H1 : Hp} {O O1 : Nat → List Addr} {ρ1 : Env} {σ : St} {S1 : List Addr} {x : Opd} {v : V} {Q : VK} (s : Sit K C σ0 H O ρ1 σ H1 O1 S1) (r : rO K H1 σ x v S1) (w : Wg (rO K) K C σ0 W σ H O (bopK g k x ρ1) Q) :
    ∃ t, TruV K v H1 t ∧ (t = k → tE K C σ0 W g σ H1 Q) ∧ (t ≠ k → Q v H1) := by
  unfold bopK at w
  cases e1 : x.get ρ1 with
  | none => rw [e1] at w; exact w.elim
  | some d =>
    rw [e1] at w
    cases e2 : dTru d with
    | none => simp [e2] at w; exact w.elim
    | some t =>
      simp only [Option.bind_some, e2] at w
      obtain ⟨T', r'⟩ := s.get r e1
      refine ⟨t, tru_d r' e2, fun q => ?_, fun q => ?_⟩
      · rw [if_pos (by simpa using q)] at w
        exact ⟨ρ1, O1, s.en, Wg.on s.drop w⟩
      · rw [if_neg (by simpa using q)] at w
        exact w v H1 O1 S1 r s
theorem pe_and' (ha : PE X a (TEx X C σ0 W f)) (hb : PE X (.BoolOp .And (b :: rest) pos) (TEx X C σ0 W g)) : PE X (.BoolOp .And (a :: b :: rest) pos) (TEx X C σ0 W fun ρ => (f ρ).bind fun x ρ1 => bopK g true x ρ1) := pe_imp (pe_andT ha hb) fun σ H Q w => by
  obtain ⟨ρ, O, en, w⟩ := w
  refine seq (Sit.start en) w fun x ρ1 w1 v H1 O1 S1 r1 s1 => ?_
  obtain ⟨t, e, q1, q2⟩ := bop_ok s1 r1 w1
  refine ⟨t, e, ?_⟩
  cases t with
  | true => exact q1 rfl
  | false => exact q2 (by decide)
theorem pe_or' (ha : PE X a (TEx X C σ0 W f)) (hb : PE X (.BoolOp .Or (b :: rest) pos) (TEx X C σ0 W g)) : PE X (.BoolOp .Or (a :: b :: rest) pos) (TEx X C σ0 W fun ρ => (f ρ).bind fun x ρ1 => bopK g false x ρ1) := pe_imp (pe_orT ha hb) fun σ H Q w => by
  obtain ⟨ρ, O, en, w⟩ := w
  refine seq (Sit.start en) w fun x ρ1 w1 v H1 O1 S1 r1 s1 => ?_
  obtain ⟨t, e, q1, q2⟩ := bop_ok s1 r1 w1
  refine ⟨t, e, ?_⟩
  cases t with
  | true => exact q2 (by decide)
  | false => exact q1 rfl
/-- not, as a value -/
theorem pe_not' (ha : PE X a (TEx X C σ0 W f)) : PE X (.UnaryOp .Not a pos) (TEx X C σ0 W fun ρ => (f ρ).bind fun x ρ1 => val x ρ1 fun d => (dTru d).map fun t => D.bl !t) := pe_imp (pe_notT ha) fun σ H Q w => by
  obtain ⟨ρ, O, en, w⟩ := w
  refine seq (Sit.start en) w fun x ρ1 w1 v H1 O1 S1 r1 s1 => ?_
  obtain ⟨d, T, z, hd, hk, q⟩ := val_ok s1 r1 w1
  obtain ⟨t, e, rfl⟩ := Option.map_eq_some_iff.mp hk
  exact ⟨t, tru_d hd e, q_bl q⟩
/-- a < b < c -/
def cmp2K (op op' : Cp) (h : Env → R Opd) (x y : Opd) (ρ2 : Env) : R Opd := (two x y ρ2 fun d e => (dCmp op d e).map D.bl).bind fun t ρ3 => match t with
  | .own (.bl true) => (h ρ3).bind fun z ρ4 => two y z ρ4 fun d e => (dCmp op' d e).map D.bl
  | .own (.bl false) => .ok (.own (.bl false)) ρ3
  | _ => .stuck
theorem cmp2_ok {op op' : Cp} {K : PySem.W.Frag} {H H2 : Hp} {O O2 : Nat → List Addr} {ρ2 : Env} {σ : St} {S T T' : List Addr} {x y : Opd} {v u : V} {Q : VK} (s : Sit K C σ0 H O ρ2 σ H2 O2 S) (r : rO K H2 σ x v T) (r' : rO K H2 σ y u T') (sT : ∀ x ∈ T', x ∈ S)
    (w : Wg (rO K) K C σ0 W σ H O (cmp2K op op' h x y ρ2) Q) :
    rCp K op v u H2 fun z H3 => ∃ k, z = .bl k ∧ (if k = true then tE K C σ0 W h σ H3 (fun w' H4 => rCp K op' u w' H4 Q) else Q (.bl false) H3) := by
  unfold cmp2K two at w
  cases e1 : x.get ρ2 with
  | none => rw [e1] at w; exact w.elim
  | some d =>
    cases e2 : y.get ρ2 with
    | none => rw [e1, e2] at w; exact w.elim
    | some e =>
      cases e3 : dCmp op d e with
      | none => simp [e1, e2, e3] at w; exact w.elim
      | some t =>
        simp only [e1, e2, e3, Option.map_some, R.bind] at w
        obtain ⟨U, g1⟩ := s.get r e1
        obtain ⟨U', g2⟩ := s.get r' e2
        refine ⟨d, e, U, U', .bl t, g1, g2, by simp [e3], fun z H3 S3 n => ?_⟩
        obtain ⟨rp, ex, nw⟩ := n
        cases rp
        refine ⟨t, rfl, ?_⟩
        have s3 : Sit K C σ0 H2 O2 ρ2 σ H3 O2 [] := (Sit.start s.en).ext (z := .bl t) ⟨.bl t, ex, by simp⟩
        cases t with
        | true =>
          rw [if_pos rfl]
          have s4 := s.trans s3
          refine seq s4 w fun z ρ4 w4 q H4 O4 S4 r4 s5 => ?_
          have r5 : rO K H3 σ y u T' := by
            cases y with
            | own dd => exact Rp.kp dd r' (kp_ex ex)
            | sl i => exact r'
          exact two_ok (s4.trans s5) (s4.carry s5 r5 fun x m => List.mem_append_left _ (sT x m)) r4 w4
        | false =>
          rw [if_neg (by decide)]
          exact w (.bl false) H3 O2 [] (.bl _) ((s.trans s3).drop)
theorem pe_cmp2 {op op' : Cp} (ho : OpR X (compareOp (cpOf op)) (rCp X.K op)) (ho' : OpR X (compareOp (cpOf op')) (rCp X.K op')) (ha : PE X a (TEx X C σ0 W f)) (hb : PE X b (TEx X C σ0 W g)) (hc : PE X c (TEx X C σ0 W h)) (hm : lastMarks [cpOf op, cpOf op'] [b, c] = false) :
    PE X (.Compare a [cpOf op, cpOf op'] [b, c] pos) (TEx X C σ0 W fun ρ => (f ρ).bind fun x ρ1 => (g ρ1).bind fun y ρ2 => cmp2K op op' h x y ρ2) := pe_imp (pe_chain ho ho' ha hb hc hm) fun σ H Q w => by
  obtain ⟨ρ, O, en, w⟩ := w
  refine seq (Sit.start en) w fun x ρ1 w1 v H1 O1 S1 r1 s1 => ?_
  refine seq s1 w1 fun y ρ2 w2 u H2 O2 S2 q2 s2 => ?_
  exact cmp2_ok (s1.trans s2) (s1.carry s2 r1 fun x m => m) q2 (fun x m => List.mem_append_right _ m) w2
theorem pt_cmp2 {op op' : Cp} (ho : OpR X (compareOp (cpOf op)) (rCp X.K op)) (ho' : OpR X (compareOp (cpOf op')) (rCp X.K op')) (ha : PE X a (TEx X C σ0 W f)) (hb : PE X b (TEx X C σ0 W g)) (hc : PE X c (TEx X C σ0 W h)) (hm : lastMarks [cpOf op, cpOf op'] [b, c] = false) :
    PT X (.Compare a [cpOf op, cpOf op'] [b, c] pos) (TBx X C σ0 W fun ρ => (f ρ).bind fun x ρ1 => (g ρ1).bind fun y ρ2 => cmp2K op op' h x y ρ2) := pt_imp (pt_chain ho ho' ha hb hc hm) fun σ H Q w => by
  obtain ⟨ρ, O, en, w⟩ := w
  refine seq (Sit.start en) w fun x ρ1 w1 v H1 O1 S1 r1 s1 => ?_
  refine seq s1 w1 fun y ρ2 w2 u H2 O2 S2 q2 s2 => ?_
  exact cmp2_ok (s1.trans s2) (s1.carry s2 r1 fun x m => m) q2 (fun x m => List.mem_append_right _ m) w2

/-! ### argument lists -/
def rOs (K : PySem.W.Frag) : Rl (List Opd) (List V) := fun H σ os vs S => match os, vs with
  | [], [] => S = []
  | o :: os, v :: vs => ∃ S1 S2, S = S1 ++ S2 ∧ rO K H σ o v S1 ∧ rOs K H σ os vs S2 ∧ ∀ x ∈ S1, x ∉ S2
  | _, _ => False
abbrev TAx (X : Cx) (C : Ct) (σ0 : St) (W : WX) (f : Env → R (List Opd)) : TA := tG (rOs X.K) X.K C σ0 W f
theorem pa_imp {es : List Expr} {t t' : TA} (h : PA X es t) (i : ∀ σ H Q, t' σ H Q → t σ H Q) : PA X es t' := ⟨fun pos pins s σ H Q I w => h.run pos pins s σ H Q I (i σ H Q w)⟩
theorem pa_nil' : PA X [] (TAx X C σ0 W fun ρ => .ok [] ρ) := pa_imp pa_nil fun σ H Q w => by
  obtain ⟨ρ, O, en, w⟩ := w
  exact w [] H O [] rfl (Sit.start en)
theorem pa_cons' {es : List Expr} {fs : Env → R (List Opd)} (ha : PE X e (TEx X C σ0 W f)) (hr : PA X es (TAx X C σ0 W fs)) (hs : starEach (e :: es) X.env = (false, eval e X.env) :: starEach es X.env) :
    PA X (e :: es) (TAx X C σ0 W fun ρ => (f ρ).bind fun o ρ1 => (fs ρ1).bind fun os ρ2 => .ok (o :: os) ρ2) := pa_imp (pa_cons ha hr hs) fun σ H Q w => by
  obtain ⟨ρ, O, en, w⟩ := w
  refine seq (rep' := rOs X.K) (Sit.start en) w fun x ρ1 w1 v H1 O1 S1 r1 s1 => ?_
  refine seq (rep' := rOs X.K) s1 w1 fun y ρ2 w2 u H2 O2 S2 q2 s2 => ?_
  exact w2 (v :: u) H2 O2 (S1 ++ S2) ⟨S1, S2, rfl, s1.carry s2 r1 fun x m => m, q2, fun x m => (s1.apart s2 x m).1⟩ (s1.trans s2)
theorem gets_ok {K : PySem.W.Frag} {H H1 : Hp} {O O1 : Nat → List Addr} {ρ1 : Env} {σ : St} {S1 : List Addr} (s : Sit K C σ0 H O ρ1 σ H1 O1 S1) : ∀ {os : List Opd} {vs : List V} {T : List Addr} {ds : List D}, rOs K H1 σ os vs T → gets ρ1 os = some ds → Rep K H1 ds vs
  | [], [], _, ds, _, e => by cases e; exact .nil
  | [], _ :: _, _, _, r, _ => r.elim
  | _ :: _, [], _, _, r, _ => r.elim
  | o :: os, v :: vs, _, ds, r, e => by
    obtain ⟨S1, S2, _, r1, r2, _⟩ := r
    simp only [gets] at e
    cases e1 : o.get ρ1 with
    | none => rw [e1] at e; cases e
    | some d =>
      rw [e1] at e
      cases e2 : gets ρ1 os with
      | none => rw [e2] at e; cases e
      | some es =>
        rw [e2] at e
        cases e
        exact .cons (s.get r1 e1 |>.imp fun _ h => h) (gets_ok s r2 e2)
theorem many_ok {K : PySem.W.Frag} {H H1 : Hp} {O O1 : Nat → List Addr} {ρ1 : Env} {σ : St} {S1 T : List Addr} {os : List Opd} {vs : List V} {k : List D → Option D} {Q : VK} (s : Sit K C σ0 H O ρ1 σ H1 O1 S1) (r : rOs K H1 σ os vs T) (w : Wg (rO K) K C σ0 W σ H O (many os ρ1 k) Q) : rN K k vs H1 Q := by
  unfold many at w
  cases e1 : gets ρ1 os with
  | none => rw [e1] at w; exact w.elim
  | some ds =>
    rw [e1] at w
    dsimp only at w
    cases e2 : k ds with
    | none => rw [e2] at w; exact w.elim
    | some z =>
      rw [e2] at w
      exact ⟨ds, z, gets_ok s r e1, e2, fun w' H' S' n => w w' H' O1 S' n.rp (s.ext n)⟩
theorem owns_ok {K : PySem.W.Frag} {H : Hp} {σ : St} : ∀ {os : List Opd} {vs : List V} {T : List Addr} {ds : List D}, rOs K H σ os vs T → owns os = some ds → Rps K H ds vs T
  | [], [], _, ds, r, e => by
    cases e
    have r' : _ = [] := r
    subst r'
    exact .nil
  | [], _ :: _, _, _, r, _ => r.elim
  | _ :: _, [], _, _, r, _ => r.elim
  | .sl i :: os, v :: vs, _, ds, r, e => by simp [owns] at e
  | .own d :: os, v :: vs, _, ds, r, e => by
    obtain ⟨S1, S2, rfl, r1, r2, n⟩ := r
    simp only [owns] at e
    obtain ⟨es, e1, rfl⟩ := Option.map_eq_some_iff.mp e
    exact .cons r1 (owns_ok r2 e1) n
/-! ### displays -/
def tupK (os : List Opd) (ρ1 : Env) : R Opd := match owns os with
  | some ds => if ds.length ≤ sizeLine then .ok (.own (.tup ds)) ρ1 else .stuck
  | none => .stuck
def lstK (os : List Opd) (ρ1 : Env) : R Opd := match owns os with
  | some ds => if ds.length ≤ sizeLine then .ok (.own (.lst false ds)) ρ1 else .stuck
  | none => .stuck
theorem pe_tup' {es : List Expr} {k : Nat} {fs : Env → R (List Opd)} (h : PA X es (TAx X C σ0 W fs)) : PE X (.Tuple es k pos) (TEx X C σ0 W fun ρ => (fs ρ).bind tupK) := pe_imp (pe_tup h) fun σ H Q w => by
  obtain ⟨ρ, O, en, w⟩ := w
  refine seq (Sit.start en) w fun os ρ1 w1 vs H1 O1 S1 r1 s1 => ?_
  unfold tupK at w1
  cases e1 : owns os with
  | none => rw [e1] at w1; exact w1.elim
  | some ds =>
    rw [e1] at w1
    dsimp only at w1
    by_cases hz : ds.length ≤ sizeLine
    · rw [if_pos hz] at w1
      have g := owns_ok r1 e1
      refine ⟨by rw [← g.length]; exact hz, fun p hp => ?_⟩
      have ex : ∀ x o, H1 x = some o → upd H1 p (.tup vs) x = some o := ex_upd hp
      have s2 : Sit X.K C σ0 H1 O1 ρ1 σ (upd H1 p (.tup vs)) O1 [] := (Sit.start s1.en).ext (z := .non) ⟨.non, ex, by simp⟩
      exact w1 (.ref p) _ O1 S1 (.tup upd_same (Rps.kp ds g (kp_ex ex))) ((s1.trans s2).sub fun x m => by simpa using m)
    · rw [if_neg hz] at w1
      exact w1.elim
theorem pe_lst' {es : List Expr} {fs : Env → R (List Opd)} (h : PA X es (TAx X C σ0 W fs)) : PE X (.List es pos) (TEx X C σ0 W fun ρ => (fs ρ).bind lstK) := pe_imp (pe_lst h) fun σ H Q w => by
  obtain ⟨ρ, O, en, w⟩ := w
  refine seq (Sit.start en) w fun os ρ1 w1 vs H1 O1 S1 r1 s1 => ?_
  unfold lstK at w1
  cases e1 : owns os with
  | none => rw [e1] at w1; exact w1.elim
  | some ds =>
    rw [e1] at w1
    dsimp only at w1
    by_cases hz : ds.length ≤ sizeLine
    · rw [if_pos hz] at w1
      have g := owns_ok r1 e1
      refine ⟨by rw [← g.length]; exact hz, fun p hp => ?_⟩
      have ex : ∀ x o, H1 x = some o → upd H1 p (.lst vs) x = some o := ex_upd hp
      have np : p ∉ S1 := fun m => by
        obtain ⟨xs, q⟩ := s1.mu p m
        rw [hp] at q
        cases q
      exact w1 (.ref p) _ O1 (p :: S1) (.lst upd_same (Rps.kp ds g (kp_ex ex)) np) (s1.lst hp)
    · rw [if_neg hz] at w1
      exact w1.elim
/-! ### slices -/
def rI' : Rl (Option Int) (Option Int) := fun H σ o v S => o = v ∧ S = []
theorem po_none' : PO X none (tG rI' X.K C σ0 W fun ρ => .ok none ρ) := ⟨fun pins s σ H Q I w => (po_none (X := X)).run pins s σ H Q I (by
  obtain ⟨ρ, O, en, w⟩ := w
  exact w none H O [] ⟨rfl, rfl⟩ (Sit.start en))⟩
def boundK (o : Opd) (ρ1 : Env) : R (Option Int) := match o.get ρ1 with
  | some (.int i) => .ok (some i) ρ1
  | _ => .stuck
theorem po_some' (ha : PE X a (TEx X C σ0 W f)) : PO X (some a) (tG rI' X.K C σ0 W fun ρ => (f ρ).bind boundK) := ⟨fun pins s σ H Q I w => (po_some ha).run pins s σ H Q I (by
  obtain ⟨ρ, O, en, w⟩ := w
  refine seq (rep' := rI') (Sit.start en) w fun o ρ1 w1 v H1 O1 S1 r1 s1 => ?_
  unfold boundK at w1
  split at w1
  · rename_i i e1
    obtain ⟨T', r'⟩ := s1.get r1 e1
    cases r'
    exact ⟨i, rfl, w1 (some i) H1 O1 [] ⟨rfl, rfl⟩ s1.drop⟩
  · exact w1.elim)⟩
theorem pe_slice' {lo hi : Option Expr} {p2 : Pos} {fl fh : Env → R (Option Int)} (ha : PE X a (TEx X C σ0 W f)) (hl : PO X lo (tG rI' X.K C σ0 W fl)) (hh : PO X hi (tG rI' X.K C σ0 W fh)) :
    PE X (.Subscript a (.Slice lo hi none p2) pos) (TEx X C σ0 W fun ρ => (f ρ).bind fun x ρ1 => (fl ρ1).bind fun l ρ2 => (fh ρ2).bind fun u ρ3 => val x ρ3 (dSl l u)) := pe_imp (pe_slice sl_d ha hl hh) fun σ H Q w => by
  obtain ⟨ρ, O, en, w⟩ := w
  refine seq (rep' := rO X.K) (Sit.start en) w fun x ρ1 w1 v H1 O1 S1 r1 s1 => ?_
  refine seq (rep' := rO X.K) (rep := rI') s1 w1 fun l ρ2 w2 l' H2 O2 S2 q2 s2 => ?_
  have s12 := s1.trans s2
  refine seq (rep' := rO X.K) (rep := rI') s12 w2 fun u ρ3 w3 u' H3 O3 S3 q3 s3 => ?_
  obtain ⟨rfl, rfl⟩ := q2
  obtain ⟨rfl, rfl⟩ := q3
  have r2 := s1.carry s2 r1 fun x m => m
  exact val_ok (s12.trans s3) (s12.carry s3 r2 fun x m => List.mem_append_left _ m) w3
end
end Aw

set_option Elab.async false
set_option linter.all false
set_option maxRecDepth 100000
set_option maxHeartbeats 800000
/-! Ev8: the readings of calls; methods that change a list. -/
namespace Aw
open PySem L2 PySem.Spec
open PyProof.Rows hiding St

theorem bind_bind {α β γ : Type} (r : R α) (k : α → Env → R β) (l : β → Env → R γ) : (r.bind k).bind l = r.bind fun a ρ => (k a ρ).bind l := by
  cases r <;> rfl
/-! ### a slot's list is changed -/
section
variable {K : PySem.W.Frag} {C : Ct} {σ0 : St} {H H1 H2 : Hp} {O O1 O2 : Nat → List Addr} {ρ ρ1 ρ2 : Env} {σ σ1 σ2 : St} {S S1 S2 T U P : List Addr}
theorem Sit.mutG {i : Nat} {l : Addr} {d0 d1 : D} {m0 m1 : MuO} {Si : List Addr} (s : Sit K C σ0 H O ρ1 σ H1 O1 S) (e : gt ρ1 i = some d0) (hσ : σ[i]? = some (some (.ref l))) (hl : H1 l = some m0.ho) (hO : O1 i = l :: Si)
    (new : Rp K (upd H1 l m1.ho) d1 (.ref l) (l :: U)) (muU : ∀ a ∈ U, Mu H1 a) (hU : ∀ a ∈ U, a ∈ Si ∨ a ∈ S) (nU : l ∉ U) (hP : ∀ a ∈ P, a ∈ Si ∨ a ∈ S) (nP : l ∉ P) (dUP : ∀ a ∈ U, a ∉ P) :
    ∃ O2, Sit K C σ0 H O (ρ1.set i (some d1)) σ (upd H1 l m1.ho) O2 P ∧ (∀ (d : D) (v : V) (T : List Addr), l ∉ T → Rp K H1 d v T → Rp K (upd H1 l m1.ho) d v T) := by
  have hi := gt_lt e
  have st : ∀ a o, a ≠ l → H1 a = some o → upd H1 l m1.ho a = some o := fun a o n h => by
    rw [upd_ne n]
    exact h
  have kp : ∀ T, l ∉ T → Kp H1 (upd H1 l m1.ho) T := fun T n a o h p => st a o (fun q => by
    subst q
    rcases p with p | p
    · rw [hl] at h
      cases h
      exact m0.np p
    · exact n p) h
  have mi : ∀ a, a ∈ Si → a ∈ O1 i := fun a m => by rw [hO]; exact List.mem_cons_of_mem _ m
  have li : l ∈ O1 i := by rw [hO]; exact List.mem_cons_self
  have away : ∀ j a, j ≠ i → a ∈ O1 j → a ≠ l := fun j a n m q => by
    subst q
    exact n (s.en.dj j i a m li)
  refine ⟨fun j => if j = i then l :: U else O1 j, ⟨⟨by simpa using s.en.len, fun j d q => ?_, fun j k a m m' => ?_, fun j a m => ?_, s.en.pin⟩, fun a m j m' => ?_, fun a m => ?_, fun a o h n => ?_, fun a m => ?_⟩, fun d v T n h => Rp.kp d h (kp T n)⟩
  · rw [gt_set hi] at q
    by_cases c : j = i
    · subst c
      rw [if_pos rfl] at q
      cases q
      exact ⟨_, hσ, by rw [if_pos rfl]; exact new⟩
    · rw [if_neg c] at q
      obtain ⟨v, e1, g⟩ := s.en.rep j d q
      exact ⟨v, e1, by rw [if_neg c]; exact Rp.kp d g (kp _ fun m => away j l c m rfl)⟩
  · have hyp : ∀ j a, (a ∈ if j = i then l :: U else O1 j) → (j = i ∧ (a = l ∨ a ∈ Si ∨ a ∈ S)) ∨ (j ≠ i ∧ a ∈ O1 j) := fun j a m => by
      by_cases c : j = i
      · rw [if_pos c] at m
        rcases List.mem_cons.mp m with q | q
        · exact .inl ⟨c, .inl q⟩
        · exact .inl ⟨c, .inr (hU a q)⟩
      · rw [if_neg c] at m
        exact .inr ⟨c, m⟩
    have no : ∀ j a, j ≠ i → a ∈ O1 j → (a = l ∨ a ∈ Si ∨ a ∈ S) → False := fun j a n m z => by
      rcases z with z | z | z
      · exact away j a n m z
      · exact n (s.en.dj j i a m (mi a z))
      · exact s.dj a z j m
    rcases hyp j a m with ⟨c, z⟩ | ⟨c, z⟩
    · rcases hyp k a m' with ⟨c', z'⟩ | ⟨c', z'⟩
      · rw [c, c']
      · exact (no k a c' z' z).elim
    · rcases hyp k a m' with ⟨c', z'⟩ | ⟨c', z'⟩
      · exact (no j a c z z').elim
      · exact s.en.dj j k a z z'
  · by_cases c : j = i
    · rw [if_pos c] at m
      rcases List.mem_cons.mp m with q | q
      · subst q
        exact ⟨m1, upd_same⟩
      · obtain ⟨zs, h⟩ := muU a q
        exact ⟨zs, st a _ (fun q' => nU (q' ▸ q)) h⟩
    · rw [if_neg c] at m
      obtain ⟨zs, h⟩ := s.en.mu j a m
      exact ⟨zs, st a _ (away j a c m) h⟩
  · by_cases c : j = i
    · rw [if_pos c] at m'
      rcases List.mem_cons.mp m' with q | q
      · subst q
        exact nP m
      · exact dUP a q m
    · rw [if_neg c] at m'
      rcases hP a m with q | q
      · exact c (s.en.dj j i a m' (mi a q))
      · exact s.dj a q j m'
  · rcases hP a m with q | q
    · obtain ⟨zs, h⟩ := s.en.mu i a (mi a q)
      exact ⟨zs, st a _ (fun q' => nP (q' ▸ m)) h⟩
    · obtain ⟨zs, h⟩ := s.mu a q
      exact ⟨zs, st a _ (fun q' => nP (q' ▸ m)) h⟩
  · refine st a o (fun q => ?_) (s.st.fr a o h n)
    subst q
    rcases s.st.nw a (.inr ⟨i, li⟩) with z | ⟨j, z⟩
    · rw [z] at h
      cases h
    · exact n j z
  · have b : (a ∈ S ∨ ∃ j, a ∈ O1 j) → H a = none ∨ ∃ j, a ∈ O j := s.st.nw a
    rcases m with m | ⟨j, m⟩
    · rcases hP a m with q | q
      · exact b (.inr ⟨i, mi a q⟩)
      · exact b (.inl q)
    · by_cases c : j = i
      · rw [if_pos c] at m
        rcases List.mem_cons.mp m with q | q
        · subst q
          exact b (.inr ⟨i, li⟩)
        · rcases hU a q with z | z
          · exact b (.inr ⟨i, mi a z⟩)
          · exact b (.inl z)
      · rw [if_neg c] at m
        exact b (.inr ⟨j, m⟩)
theorem Sit.mutate {i : Nat} {l : Addr} {xs ys : List D} {vs ws : List V} {Si : List Addr} (s : Sit K C σ0 H O ρ1 σ H1 O1 S) (e : gt ρ1 i = some (.lst false xs)) (hσ : σ[i]? = some (some (.ref l))) (hl : H1 l = some (.lst vs)) (hO : O1 i = l :: Si)
    (r : Rps K H1 ys ws U) (hU : ∀ a ∈ U, a ∈ Si ∨ a ∈ S) (nU : l ∉ U) (hP : ∀ a ∈ P, a ∈ Si ∨ a ∈ S) (nP : l ∉ P) (dUP : ∀ a ∈ U, a ∉ P) :
    ∃ O2, Sit K C σ0 H O (ρ1.set i (some (.lst false ys))) σ (upd H1 l (.lst ws)) O2 P ∧ (∀ (d : D) (v : V) (T : List Addr), l ∉ T → Rp K H1 d v T → Rp K (upd H1 l (.lst ws)) d v T) :=
  s.mutG (m0 := .lst vs) (m1 := .lst ws) e hσ hl hO (.lst upd_same (Rps.kp _ r fun a o h p => by
    rw [upd_ne fun q => ?_]
    · exact h
    · subst q
      rcases p with p | p
      · rw [hl] at h
        cases h
        exact p
      · exact nU p) nU) (Rps.mu ys r) hU nU hP nP dUP
/-- a slot's own dict -/
theorem En.ownD {i : Nat} {t : Bool} {ks ds : List D} (en : En K C σ0 H ρ σ O) (e : gt ρ i = some (.dct false t ks ds)) : ∃ l us m, σ[i]? = some (some (.ref l)) ∧ H l = some (MuO.ho m) ∧ O i = [l] ∧ DicO t ks us (MuO.ho m) ∧ Rps K H ds us [] := by
  obtain ⟨v, e1, r⟩ := en.rep i _ e
  generalize q : O i = Z at r
  cases r with
  | @dct l _ _ _ us u h o r =>
    obtain ⟨m, rfl⟩ := o.mu
    exact ⟨l, us, m, e1, h, rfl, o, r⟩
/-- a slot's own list -/
theorem En.own {i : Nat} {xs : List D} (en : En K C σ0 H ρ σ O) (e : gt ρ i = some (.lst false xs)) : ∃ l vs Si, σ[i]? = some (some (.ref l)) ∧ H l = some (.lst vs) ∧ O i = l :: Si ∧ l ∉ Si ∧ Rps K H xs vs Si := by
  obtain ⟨v, e1, r⟩ := en.rep i _ e
  generalize q : O i = Z at r
  cases r with
  | @lst l _ vs Si h r n => exact ⟨l, vs, Si, e1, h, rfl, n, r⟩
theorem Rps.app : ∀ {ds es : List D} {vs ws : List V} {S T : List Addr}, Rps K H ds vs S → Rps K H es ws T → (∀ a ∈ S, a ∉ T) → Rps K H (ds ++ es) (vs ++ ws) (S ++ T)
  | [], _, _, _, _, _, h, g, _ => by cases h; exact g
  | d :: ds, _, _, _, _, _, h, g, n => by
    cases h with
    | cons h r m =>
      rw [List.append_assoc]
      exact .cons h (Rps.app r g fun a q => n a (List.mem_append_right _ q)) fun a q q' => (List.mem_append.mp q').elim (m a q) (n a (List.mem_append_left _ q))
end
section
variable {X : Cx} {C : Ct} {σ0 : St} {W : WX} {e a b c : Expr} {f g h : Env → R Opd} {pos apos p : Pos} {es rest : List Expr} {fs : Env → R (List Opd)}
/-! ### methods of a slot's list -/
theorem tyV_l {H : Hp} {l : Addr} {vs : List V} (h : H l = some (.lst vs)) : tyV X.K "list" (.ref l) H := .inl ⟨rfl, vs, .inl (.inl h)⟩
def mmE (m : Mm) (i : Nat) (fs : Env → R (List Opd)) (ρ : Env) : R Opd := match gt ρ i with
  | some (.lst false _) => (fs ρ).bind fun os ρ1 => mmR m i os ρ1
  | _ => .stuck
theorem mm_start {m : Mm} {i : Nat} {K : PySem.W.Frag} {σ : St} {H : Hp} {O : Nat → List Addr} {ρ : Env} {Q : VK} (w : Wg (rO K) K C σ0 W σ H O (mmE m i fs ρ) Q) : ∃ xs, gt ρ i = some (.lst false xs) ∧ Wg (rO K) K C σ0 W σ H O ((fs ρ).bind fun os ρ1 => mmR m i os ρ1) Q := by
  unfold mmE at w
  split at w
  · rename_i xs q
    exact ⟨xs, q, w⟩
  · exact w.elim
theorem mm_mid {m : Mm} {i : Nat} {os : List Opd} {K : PySem.W.Frag} {σ : St} {H : Hp} {O : Nat → List Addr} {ρ1 : Env} {Q : VK} (w : Wg (rO K) K C σ0 W σ H O (mmR m i os ρ1) Q) :
    ∃ xs ds d ys, gt ρ1 i = some (.lst false xs) ∧ opnds m os (ρ1.set i none) = some ds ∧ dMm m xs ds = some (d, ys) ∧ Wg (rO K) K C σ0 W σ H O (.ok (.own d) (ρ1.set i (some (.lst false ys)))) Q := by
  unfold mmR at w
  split at w
  · rename_i xs q
    split at w
    · rename_i ds q2
      split at w
      · rename_i d ys q3
        exact ⟨xs, ds, d, ys, q, q2, q3, w⟩
      · exact w.elim
    · exact w.elim
  · exact w.elim
theorem clr_own {os : List Opd} {i : Nat} {ρ : Env} {ds : List D} (h : gets (ρ.set i none) os = some ds) : gets ρ os = some ds := by
  induction os generalizing ds with
  | nil => exact h
  | cons o os ih =>
    simp only [gets] at h ⊢
    cases e1 : o.get (ρ.set i none) with
    | none => rw [e1] at h; cases h
    | some d =>
      rw [e1] at h
      have e2 : o.get ρ = some d := by
        cases o with
        | own x => exact e1
        | sl j =>
          have q : gt (ρ.set i none) j = some d := e1
          show gt ρ j = some d
          have hj := gt_lt q
          rw [List.length_set] at hj
          by_cases c : i < ρ.length
          · rw [gt_set c] at q
            by_cases cj : j = i
            · rw [if_pos cj] at q; cases q
            · rwa [if_neg cj] at q
          · rwa [List.set_eq_of_length_le (by omega)] at q
      rw [e2]
      cases e3 : gets (ρ.set i none) os with
      | none => rw [e3] at h; cases h
      | some es =>
        rw [e3] at h
        cases h
        rw [ih e3]
theorem pe_append {i : Nat} (ho : PE X a (tVar i)) (ha : PA X (e :: es) (TAx X C σ0 W fs))
    (hbase : attributeBase a "append" X.env (eval a X.env) = eval a X.env)
    (hfew : ((backTo pos (starEach (e :: es) X.env)).all (fun x => !x.1) && (backToKw pos (keywordEach [] X.env)).all (fun x => x.1.isSome) && decide ((e :: es).length + ([] : List Keyword).length + (if ([] : List Keyword).isEmpty then 0 else 1) < 30)) = true)
    (hline : (apos.endLine == pos.line) = true) (hs : starEach (e :: es) X.env = (false, eval e X.env) :: starEach es X.env) (hplain : (backTo pos (starEach es X.env)).any (·.1) = false) :
    PE X (.Call (.Attribute a "append" apos) (e :: es) [] pos) (TEx X C σ0 W (mmE .append i fs)) := pe_imp (pe_bm PySem.F.plainAttrs_list PySem.F.slot_list_append PySem.F.type_list_append mt_append ho ha hbase hfew hline hs hplain) fun σ H Q w => by
  obtain ⟨ρ, O, en, w⟩ := w
  obtain ⟨xs, q, w1⟩ := mm_start w
  obtain ⟨l, vs, Si, e1, hl, hO, nl, r⟩ := en.own q
  refine ⟨.ref l, e1, tyV_l hl, ?_⟩
  refine seq (rep' := rO X.K) (rep := rOs X.K) (Sit.start en) w1 fun os ρ1 w2 us H1 O1 S1 r1 s1 => ?_
  obtain ⟨xs1, ds, d, ys, q1, q2, q3, w3⟩ := mm_mid w2
  obtain ⟨l1, vs1, Si1, e2, hl1, hO1, nl1, rr⟩ := s1.en.own q1
  cases e1.symm.trans e2
  unfold dMm at q3
  split at q3 <;> try contradiction
  split at q3 <;> try contradiction
  rename_i d' _ hz
  cases q3
  have g := owns_ok r1 q2
  cases g with
  | @cons _ u Sa _ us' Sb ro rn dd =>
    cases rn
    have dj : ∀ z ∈ Sa, z ∉ Si1 ∧ z ≠ l := fun z m => ⟨fun m' => s1.dj z (by simpa using m) i (by rw [hO1]; exact List.mem_cons_of_mem _ m'), fun m' => s1.dj z (by simpa using m) i (by rw [hO1, m']; exact List.mem_cons_self)⟩
    have app := Rps.app rr (.cons ro .nil (by simp)) (fun z m m' => (dj z (by simpa using m')).1 m)
    obtain ⟨O2, s2, _⟩ := s1.mutate (P := []) (U := Si1 ++ (Sa ++ [])) q1 e2 hl1 hO1 app (fun z m => by
      rcases List.mem_append.mp m with m | m
      · exact .inl m
      · exact .inr (by simpa using m)) (fun m => by
      rcases List.mem_append.mp m with m | m
      · exact nl1 m
      · exact (dj l (by simpa using m)).2 rfl) (by simp) (by simp) (by simp)
    exact ⟨l, vs1, u, rfl, rfl, hl1, by rw [← rr.length]; exact hz, w3 .non _ O2 [] .non s2⟩
theorem pe_extend {i : Nat} (ho : PE X a (tVar i)) (ha : PA X (e :: es) (TAx X C σ0 W fs))
    (hbase : attributeBase a "extend" X.env (eval a X.env) = eval a X.env)
    (hfew : ((backTo pos (starEach (e :: es) X.env)).all (fun x => !x.1) && (backToKw pos (keywordEach [] X.env)).all (fun x => x.1.isSome) && decide ((e :: es).length + ([] : List Keyword).length + (if ([] : List Keyword).isEmpty then 0 else 1) < 30)) = true)
    (hline : (apos.endLine == pos.line) = true) (hs : starEach (e :: es) X.env = (false, eval e X.env) :: starEach es X.env) (hplain : (backTo pos (starEach es X.env)).any (·.1) = false) :
    PE X (.Call (.Attribute a "extend" apos) (e :: es) [] pos) (TEx X C σ0 W (mmE .extend i fs)) := pe_imp (pe_bm PySem.F.plainAttrs_list PySem.F.slot_list_extend PySem.F.type_list_extend mt_extend ho ha hbase hfew hline hs hplain) fun σ H Q w => by
  obtain ⟨ρ, O, en, w⟩ := w
  obtain ⟨xs, q, w1⟩ := mm_start w
  obtain ⟨l, vs, Si, e1, hl, hO, nl, r⟩ := en.own q
  refine ⟨.ref l, e1, tyV_l hl, ?_⟩
  refine seq (rep' := rO X.K) (rep := rOs X.K) (Sit.start en) w1 fun os ρ1 w2 us H1 O1 S1 r1 s1 => ?_
  obtain ⟨xs1, ds, d, ys, q1, q2, q3, w3⟩ := mm_mid w2
  obtain ⟨l1, vs1, Si1, e2, hl1, hO1, nl1, rr⟩ := s1.en.own q1
  cases e1.symm.trans e2
  unfold dMm at q3
  split at q3 <;> try contradiction
  split at q3 <;> try contradiction
  rename_i zs _ hz
  simp only [Bool.and_eq_true, decide_eq_true_eq] at hz
  cases q3
  have g := gets_ok s1 r1 (clr_own q2)
  obtain ⟨u, us', T, rfl, h1, h2⟩ := rep1 g
  cases rep0 h2
  obtain ⟨b, ws, rfl, hb, rb⟩ := h1.own hz.1
  have app := Rps.app rr rb (by simp)
  obtain ⟨O2, s2, _⟩ := s1.mutate (P := []) (U := Si1 ++ []) q1 e2 hl1 hO1 app (fun z m => .inl (by simpa using m)) (fun m => nl1 (by simpa using m)) (by simp) (by simp) (by simp)
  exact ⟨l, b, vs1, ws, rfl, rfl, hl1, hb, by rw [← rr.length, ← rb.length]; exact hz.2, w3 .non _ O2 [] .non s2⟩

theorem eraseR {K : PySem.W.Frag} {H : Hp} : ∀ {ds : List D} {vs : List V} (k : Nat), Rps K H ds vs [] → Rps K H (ds.eraseIdx k) (vs.eraseIdx k) []
  | [], [], _, r => r
  | [], _ :: _, _, r => by have := r.length; cases this
  | _ :: _, [], _, r => by have := r.length; cases this
  | d :: ds, v :: vs, 0, r => (Rps.split r).2
  | d :: ds, v :: vs, k + 1, r => Rps.cons0 (Rps.split r).1 (eraseR k (Rps.split r).2)
theorem lastR {K : PySem.W.Frag} {H : Hp} {ds : List D} {vs : List V} (r : Rps K H ds vs []) : Rps K H ds.dropLast vs.dropLast [] := by
  rw [List.dropLast_eq_take, List.dropLast_eq_take, r.length]
  exact r.take0 _
theorem pe_pop0 {i : Nat} (ho : PE X a (tVar i)) (hbase : attributeBase a "pop" X.env (eval a X.env) = eval a X.env) (hline : (apos.endLine == pos.line) = true) :
    PE X (.Call (.Attribute a "pop" apos) [] [] pos) (TEx X C σ0 W (mmE .pop i fun ρ => .ok [] ρ)) := pe_imp (pe_bm0 PySem.F.plainAttrs_list PySem.F.slot_list_pop PySem.F.type_list_pop mt_pop ho hbase hline) fun σ H Q w => by
  obtain ⟨ρ, O, en, w⟩ := w
  obtain ⟨xs, q, w1⟩ := mm_start w
  obtain ⟨l, vs, Si, e1, hl, hO, nl, r⟩ := en.own q
  refine ⟨.ref l, e1, tyV_l hl, ?_⟩
  have w1 : Wg (rO X.K) X.K C σ0 W σ H O (mmR .pop i [] ρ) Q := w1
  obtain ⟨xs1, ds, d, ys, q1, q2, q3, w3⟩ := mm_mid w1
  cases q.symm.trans q1
  cases q2
  simp only [dMm] at q3
  split at q3
  case isFalse => cases q3
  rename_i hz
  cases hy : xs[xs.length - 1]? with
  | none => rw [hy] at q3; cases q3
  | some y =>
  rw [hy] at q3
  cases q3
  have r0 := r.fz_of hz
  obtain ⟨v, hv, rv⟩ := r0.get0 hy
  have s0 := Sit.start en
  obtain ⟨O2, s2, kp⟩ := s0.mutate (P := []) (U := []) q e1 hl hO (lastR r0) (by simp) (by simp) (by simp) (by simp) (by simp)
  exact ⟨l, vs, v, rfl, rfl, hl, by rw [← r0.length]; exact hv, w3 v _ O2 [] (kp _ _ _ (by simp) rv) s2⟩
theorem owns_len : ∀ (os : List Opd) (ds : List D), owns os = some ds → ds.length = os.length
  | [], _, h => by cases h; rfl
  | .sl i :: os, _, h => by cases h
  | .own d :: os, ds, h => by
    simp only [owns, Option.map_eq_some_iff] at h
    obtain ⟨es, h1, rfl⟩ := h
    simp [owns_len os es h1]
theorem pe_insert {i : Nat} (ho : PE X a (tVar i)) (ha : PA X (e :: es) (TAx X C σ0 W fs))
    (hbase : attributeBase a "insert" X.env (eval a X.env) = eval a X.env)
    (hfew : ((backTo pos (starEach (e :: es) X.env)).all (fun x => !x.1) && (backToKw pos (keywordEach [] X.env)).all (fun x => x.1.isSome) && decide ((e :: es).length + ([] : List Keyword).length + (if ([] : List Keyword).isEmpty then 0 else 1) < 30)) = true)
    (hline : (apos.endLine == pos.line) = true) (hs : starEach (e :: es) X.env = (false, eval e X.env) :: starEach es X.env) (hplain : (backTo pos (starEach es X.env)).any (·.1) = false) (two : ∀ ρ os ρ1, fs ρ = .ok os ρ1 → os.length = 2) :
    PE X (.Call (.Attribute a "insert" apos) (e :: es) [] pos) (TEx X C σ0 W (mmE .insert i fs)) := pe_imp (pe_bm PySem.F.plainAttrs_list PySem.F.slot_list_insert PySem.F.type_list_insert mt_insert ho ha hbase hfew hline hs hplain) fun σ H Q w => by
  obtain ⟨ρ, O, en, w⟩ := w
  obtain ⟨xs, q, w1⟩ := mm_start w
  obtain ⟨l, vs, Si, e1, hl, hO, nl, r⟩ := en.own q
  refine ⟨.ref l, e1, tyV_l hl, ?_⟩
  cases ef : fs ρ with
  | stuck => rw [ef] at w1; exact w1.elim
  | exc x ρ1 => rw [ef] at w1; exact ⟨ρ, O, en, by rw [ef]; exact w1⟩
  | ok os ρ1 =>
    have htwo := two _ _ _ ef
    rw [ef] at w1
    refine ⟨ρ, O, en, ?_⟩
    rw [ef]
    intro us H1 O1 S1 r1 s1
    obtain ⟨xs1, ds, d, ys, q1, q2, q3, w3⟩ := mm_mid w1
    obtain ⟨l1, vs1, Si1, e2, hl1, hO1, nl1, rr⟩ := s1.en.own q1
    cases e1.symm.trans e2
    have g := owns_ok r1 q2
    have gl := owns_len _ _ q2
    rw [htwo] at gl
    obtain ⟨dj, z, rfl⟩ : ∃ x y, ds = [x, y] := by
      cases ds with
      | nil => cases gl
      | cons x ds => cases ds with
        | nil => simp at gl
        | cons y ds => cases ds with
          | nil => exact ⟨x, y, rfl⟩
          | cons _ _ => simp at gl
    obtain ⟨j, rfl⟩ : ∃ j, dj = .int j := by
      cases dj <;> first | exact ⟨_, rfl⟩ | (simp only [dMm] at q3; cases q3)
    simp only [dMm] at q3
    split at q3
    case isFalse => cases q3
    rename_i hz
    cases q3
    simp only [Bool.and_eq_true, decide_eq_true_eq] at hz
    cases g with
    | @cons _ u Sa _ us' Sb ro rn dd =>
      cases ro
      cases rn with
      | @cons _ v Sc _ us2 Sd rz rm _ =>
        cases rm
        have r0 := rr.fz_of hz.1.1.1.1
        have z0 := rz.fz_of hz.1.1.1.2
        have nw := Rps.app0 (Rps.app0 (r0.take0 j.toNat) (Rps.cons0 z0 .nil)) (r0.drop0 j.toNat)
        obtain ⟨O2, s2, kp⟩ := s1.mutate (P := []) (U := []) q1 e2 hl1 hO1 nw (by simp) (by simp) (by simp) (by simp) (by simp)
        exact ⟨l, vs1, j, v, rfl, rfl, hl1, by rw [← r0.length]; exact hz.1.1.2, hz.1.2, hz.2, w3 .non _ O2 [] .non s2⟩
theorem pe_popAt {i : Nat} (ho : PE X a (tVar i)) (ha : PA X (e :: es) (TAx X C σ0 W fs))
    (hbase : attributeBase a "pop" X.env (eval a X.env) = eval a X.env)
    (hfew : ((backTo pos (starEach (e :: es) X.env)).all (fun x => !x.1) && (backToKw pos (keywordEach [] X.env)).all (fun x => x.1.isSome) && decide ((e :: es).length + ([] : List Keyword).length + (if ([] : List Keyword).isEmpty then 0 else 1) < 30)) = true)
    (hline : (apos.endLine == pos.line) = true) (hs : starEach (e :: es) X.env = (false, eval e X.env) :: starEach es X.env) (hplain : (backTo pos (starEach es X.env)).any (·.1) = false) (one : ∀ ρ os ρ1, fs ρ = .ok os ρ1 → os.length = 1) :
    PE X (.Call (.Attribute a "pop" apos) (e :: es) [] pos) (TEx X C σ0 W (mmE .pop i fs)) := pe_imp (pe_bm PySem.F.plainAttrs_list PySem.F.slot_list_pop PySem.F.type_list_pop mt_popAt ho ha hbase hfew hline hs hplain) fun σ H Q w => by
  obtain ⟨ρ, O, en, w⟩ := w
  obtain ⟨xs, q, w1⟩ := mm_start w
  obtain ⟨l, vs, Si, e1, hl, hO, nl, r⟩ := en.own q
  refine ⟨.ref l, e1, tyV_l hl, ?_⟩
  cases ef : fs ρ with
  | stuck => rw [ef] at w1; exact w1.elim
  | exc x ρ1 => rw [ef] at w1; exact ⟨ρ, O, en, by rw [ef]; exact w1⟩
  | ok os ρ1 =>
    have hone := one _ _ _ ef
    rw [ef] at w1
    refine ⟨ρ, O, en, ?_⟩
    rw [ef]
    intro us H1 O1 S1 r1 s1
    obtain ⟨xs1, ds, d, ys, q1, q2, q3, w3⟩ := mm_mid w1
    obtain ⟨l1, vs1, Si1, e2, hl1, hO1, nl1, rr⟩ := s1.en.own q1
    cases e1.symm.trans e2
    have g := owns_ok r1 q2
    have gl : ds.length = 1 := by
      have z : ∀ (os : List Opd) (ds : List D), owns os = some ds → ds.length = os.length := fun os => by
        induction os with
        | nil => intro ds h; cases h; rfl
        | cons o os ih =>
          intro ds h
          cases o with
          | sl i => cases h
          | own d =>
            simp only [owns, Option.map_eq_some_iff] at h
            obtain ⟨es, h1, rfl⟩ := h
            simp [ih es h1]
      rw [z _ _ q2, hone]
    obtain ⟨dj, rfl⟩ : ∃ x, ds = [x] := by
      cases ds with
      | nil => cases gl
      | cons x ds => cases ds with
        | nil => exact ⟨x, rfl⟩
        | cons y ds => simp at gl
    obtain ⟨j, rfl⟩ : ∃ j, dj = .int j := by
      cases dj <;> first | exact ⟨_, rfl⟩ | (simp only [dMm] at q3; cases q3)
    simp only [dMm] at q3
    split at q3
    case isFalse => cases q3
    rename_i hz
    cases hk : L2.ixN xs1.length j with
    | none => rw [hk] at q3; cases q3
    | some k =>
    rw [hk] at q3
    cases hy : xs1[k]? with
    | none => simp only [hy] at q3; cases q3
    | some y =>
      simp only [hy] at q3
      cases q3
      cases g with
      | @cons _ u Sa _ us' Sb ro rn dd =>
        cases rn
        cases ro
        simp only [Bool.and_eq_true, decide_eq_true_eq] at hz
        have r0 := rr.fz_of hz.1.1
        obtain ⟨v, hv, rv⟩ := r0.get0 hy
        obtain ⟨g1, g2, g3, g4⟩ := L2.ixN_seq hk
        obtain ⟨O2, s2, kp⟩ := s1.mutate (P := []) (U := []) q1 e2 hl1 hO1 (eraseR k r0) (by simp) (by simp) (by simp) (by simp) (by simp)
        exact ⟨l, vs1, j, k, v, rfl, rfl, hl1, hz.1.2, hz.2, by rw [← r0.length]; exact g1, hv, w3 v _ O2 [] (kp _ _ _ (by simp) rv) s2⟩

/-! ### built-ins -/
theorem pe_bi (b : Bi) (hu : X.A.units + 65 < cLine) (hc : X.calm = true) (hg : Gl X (biName b)) (hm : X.mg (biName b) = none) (ha : PA X (e :: es) (TAx X C σ0 W fs)) (hs : starEach (e :: es) X.env = (false, eval e X.env) :: starEach es X.env) (hplain : (backTo pos (starEach es X.env)).any (·.1) = false) :
    PE X (.Call (.Name (biName b) p) (e :: es) [] pos) (TEx X C σ0 W fun ρ => (fs ρ).bind fun os ρ1 => many os ρ1 (dBi b)) := by
  have key : PE X (.Call (.Name (biName b) p) (e :: es) [] pos) (fun σ H Q => TAx X C σ0 W fs σ H fun xs H1 => rN X.K (dBi b) xs H1 Q) := by
    have ok := bi_ok hc hu b
    have bt := biBoot b
    have n1 := biNn b
    have n2 := biNd b
    cases b <;> first | exact pe_callB ok hg hm bt ha n1 n2 hs hplain | exact pe_callTy ok hg hm bt ha n1 n2 hs hplain
  exact pe_imp key fun σ H Q w => by
    obtain ⟨ρ, O, en, w⟩ := w
    refine seq (rep' := rO X.K) (rep := rOs X.K) (Sit.start en) w fun os ρ1 w1 us H1 O1 S1 r1 s1 => ?_
    exact many_ok s1 r1 w1
/-- isinstance(x, T) -/
theorem pe_isi (t : Ty) {q : Pos} (hg : Gl X "isinstance") (hm : X.mg "isinstance" = none) (hg2 : Gl X (tyName t)) (hm2 : X.mg (tyName t) = none) (ha : PE X a (TEx X C σ0 W f)) (hs : starEach [a, .Name (tyName t) q] X.env = (false, eval a X.env) :: starEach [.Name (tyName t) q] X.env) :
    PE X (.Call (.Name "isinstance" p) [a, .Name (tyName t) q] [] pos) (TEx X C σ0 W fun ρ => (f ρ).bind fun x ρ1 => val x ρ1 fun d => (isTys [t] d).map D.bl) := by
  have ty : PE X (.Name (tyName t) q) (tC (.ty (tyName t))) := by
    cases t <;> exact pe_bltn hg2 hm2 (by decide +kernel) rfl
  have key := pe_callB (pos := pos) (p := p) call_isi hg hm boot_isinstance (pa_cons ha (pa_cons ty pa_nil) hs) (by decide) (by decide) hs
  exact pe_imp key fun σ H Q w => by
    obtain ⟨ρ, O, en, w⟩ := w
    refine seq (rep' := rO X.K) (Sit.start en) w fun x ρ1 w1 v H1 O1 S1 r1 s1 => ?_
    obtain ⟨d, T, z, hd, hk, qq⟩ := val_ok s1 r1 w1
    obtain ⟨b, hb, rfl⟩ := map_bl hk
    have hb' : isTy t d = some b := by
      simp only [isTys] at hb
      split at hb <;> first | (rename_i e; rw [e]; exact hb) | contradiction
    exact ⟨v, .ty (tyName t), .type (tyN d), .type (tyName t), b, rfl, .ty _, tyX hd hb', kit_ty (ty_kit t d b hb'), q_bl qq⟩
/-- sep.join(e) -/
def mtE (m : Mt) (f : Env → R Opd) (fs : Env → R (List Opd)) (ρ : Env) : R Opd := (f ρ).bind fun x ρ1 => match x.get ρ1 with
  | some (.str z) => (fs ρ1).bind fun os ρ2 => many os ρ2 (dMt m z)
  | _ => .stuck
theorem pe_join' (ha : PE X a (TEx X C σ0 W f)) (he : PE X e (TEx X C σ0 W g)) (hs : starEach [e] X.env = [(false, eval e X.env)]) (hbase : attributeBase a "join" X.env (eval a X.env) = eval a X.env) (hline : (apos.endLine == pos.line) = true) :
    PE X (.Call (.Attribute a "join" apos) [e] [] pos) (TEx X C σ0 W (mtE .join f fun ρ => (g ρ).bind fun o ρ1 => .ok [o] ρ1)) := pe_imp (pe_m1 PySem.F.slot_str_join PySem.F.type_str_join mt_d ha he hs hbase hline) fun σ H Q w => by
  obtain ⟨ρ, O, en, w⟩ := w
  refine seq (rep' := rO X.K) (Sit.start en) w fun x ρ1 w1 v H1 O1 S1 r1 s1 => ?_
  split at w1
  · rename_i z ez
    obtain ⟨T, g1⟩ := s1.get r1 ez
    cases g1
    refine ⟨⟨z, rfl⟩, ?_⟩
    rw [bind_bind] at w1
    refine seq (rep' := rO X.K) s1 w1 fun o ρ2 w2 u H2 O2 S2 r2 s2 => ?_
    obtain ⟨ds, zz, hr, hk, qq⟩ := many_ok (s1.trans s2) (os := [o]) (vs := [u]) (T := S2 ++ []) ⟨S2, [], rfl, r2, rfl, by simp⟩ w2
    exact ⟨z, ds, zz, rfl, hr, hk, qq⟩
  · exact w1.elim
end
end Aw

set_option Elab.async false
set_option linter.all false
set_option maxRecDepth 100000
set_option maxHeartbeats 800000
/-! Ev9: calls of the text's own defs; targets. -/
namespace Aw
open PySem L2 PySem.Spec
open PyProof.Rows hiding St

/-! ### a def's promise, by the evaluator -/
structure Far (H : Hp) (S : List Addr) (H' : Hp) (U : List Addr) : Prop where
  fr : ∀ a o, H a = some o → a ∉ S → H' a = some o
  nw : ∀ a ∈ U, H a = none ∨ a ∈ S
def spF (K : PySem.W.Frag) (np : Nat) (cf : List D → FR) : Sp := fun vs H Q E => vs.length = np ∧ ∃ ds S, Rps K H ds vs S ∧ match cf ds with
  | .ok d es => ∀ v H' T U, Rp K H' d v T → Rps K H' es vs U → (∀ a ∈ T, a ∉ U) → Far H S H' (T ++ U) → Q v H'
  | .exc x es => ∀ cls dd H' U, XRep K H' x cls dd → Rps K H' es vs U → Far H S H' U → E cls dd H'
  | .stuck => False
section
variable {K : PySem.W.Frag} {C : Ct} {σ0 : St} {H H1 H2 : Hp} {O O1 O2 : Nat → List Addr} {ρ ρ1 ρ2 : Env} {σ σ1 σ2 : St} {S S1 S2 T U P : List Addr}
/-- a slot handed over -/
theorem En.clear {i : Nat} (en : En K C σ0 H ρ σ O) : En K C σ0 H (ρ.set i none) σ (fun j => if j = i then [] else O j) where
  len := by simpa using en.len
  rep := fun j d q => by
    have hj : j ≠ i := fun c => by
      subst c
      have hl := gt_lt q
      rw [List.length_set] at hl
      rw [gt_set hl, if_pos rfl] at q
      cases q
    have q' : gt ρ j = some d := by
      unfold gt at q ⊢
      rwa [List.getElem?_set_ne (Ne.symm hj)] at q
    obtain ⟨v, e, r⟩ := en.rep j d q'
    exact ⟨v, e, by rw [if_neg hj]; exact r⟩
  dj := fun j k a m m' => by
    by_cases c : j = i
    · rw [if_pos c] at m; simp at m
    · by_cases c' : k = i
      · rw [if_pos c'] at m'; simp at m'
      · rw [if_neg c] at m
        rw [if_neg c'] at m'
        exact en.dj j k a m m'
  mu := fun j a m => by
    by_cases c : j = i
    · rw [if_pos c] at m; simp at m
    · rw [if_neg c] at m
      exact en.mu j a m
  pin := en.pin
theorem takes_ok : ∀ {os : List Opd} {vs : List V} {T : List Addr} {ρ : Env} {O : Nat → List Addr} {ds : List D} {ρ' : Env}, En K C σ0 H ρ σ O → rOs K H σ os vs T → (∀ a ∈ T, ∀ i, a ∉ O i) → takes ρ os = some (ds, ρ') →
    ∃ U O', Rps K H ds vs U ∧ En K C σ0 H ρ' σ O' ∧ (∀ a ∈ U, ∀ j, a ∉ O' j) ∧ (∀ a ∈ U, a ∈ T ∨ ∃ j, a ∈ O j) ∧ (∀ j a, a ∈ O' j → a ∈ O j)
  | [], [], _, ρ, O, ds, ρ', en, r, n, e => by
    cases e
    exact ⟨[], O, .nil, en, by simp, by simp, fun _ _ m => m⟩
  | [], _ :: _, _, _, _, _, _, _, r, _, _ => r.elim
  | _ :: _, [], _, _, _, _, _, _, r, _, _ => r.elim
  | .own d :: os, v :: vs, _, ρ, O, ds, ρ', en, r, n, e => by
    obtain ⟨Sa, Sb, rfl, r1, r2, dd⟩ := r
    simp only [takes] at e
    split at e <;> try contradiction
    rename_i es ρ'' e1
    cases e
    obtain ⟨U, O', g, en', h1, h2, h3⟩ := takes_ok en r2 (fun a m => n a (List.mem_append_right _ m)) e1
    have r1' : Rp K H d v Sa := r1
    refine ⟨Sa ++ U, O', .cons r1' g fun a m m' => ?_, en', fun a m j z => ?_, fun a m => ?_, h3⟩
    · rcases h2 a m' with z | ⟨j, z⟩
      · exact dd a m z
      · exact n a (List.mem_append_left _ m) j z
    · rcases List.mem_append.mp m with m | m
      · exact n a (List.mem_append_left _ m) j (h3 j a z)
      · exact h1 a m j z
    · rcases List.mem_append.mp m with m | m
      · exact .inl (List.mem_append_left _ m)
      · exact (h2 a m).imp (fun z => List.mem_append_right _ z) fun z => z
  | .sl i :: os, v :: vs, _, ρ, O, ds, ρ', en, r, n, e => by
    obtain ⟨Sa, Sb, rfl, ⟨ra, rb⟩, r2, dd⟩ := r
    subst ra
    simp only [takes] at e
    split at e <;> try contradiction
    rename_i d ed
    split at e <;> try contradiction
    rename_i es ρ'' e1
    cases e
    obtain ⟨w, ew, rw'⟩ := en.rep i d ed
    cases rb.symm.trans ew
    by_cases z : d.fzn = true
    · rw [if_pos z] at e1
      obtain ⟨U, O', g, en', h1, h2, h3⟩ := takes_ok en r2 (fun a m => n a (by simpa using m)) e1
      exact ⟨U, O', Rps.cons (S := []) (rw'.fz_of z) g (by simp), en', h1, fun a m => (h2 a m).imp (fun z => by simpa using z) fun z => z, h3⟩
    · rw [if_neg z] at e1
      obtain ⟨U, O', g, en', h1, h2, h3⟩ := takes_ok (en.clear (i := i)) r2 (fun a m j m' => by
        by_cases c : j = i
        · rw [if_pos c] at m'; simp at m'
        · rw [if_neg c] at m'
          exact n a (by simpa using m) j m') e1
      have h3' : ∀ j a, a ∈ O' j → a ∈ O j ∧ j ≠ i := fun j a m => by
        have q := h3 j a m
        by_cases c : j = i
        · rw [if_pos c] at q; simp at q
        · rw [if_neg c] at q
          exact ⟨q, c⟩
      refine ⟨O i ++ U, O', .cons rw' g fun a m m' => ?_, en', fun a m j q => ?_, fun a m => ?_, fun j a m => (h3' j a m).1⟩
      · rcases h2 a m' with q | ⟨j, q⟩
        · exact n a (by simpa using q) i m
        · by_cases c : j = i
          · rw [if_pos c] at q; simp at q
          · rw [if_neg c] at q
            exact c (en.dj j i a q m)
      · rcases List.mem_append.mp m with m | m
        · obtain ⟨q1, q2⟩ := h3' j a q
          exact q2 (en.dj j i a q1 m)
        · exact h1 a m j q
      · rcases List.mem_append.mp m with m | m
        · exact .inr ⟨i, m⟩
        · rcases h2 a m with q | ⟨j, q⟩
          · exact .inl (by simpa using q)
          · by_cases c : j = i
            · rw [if_pos c] at q; simp at q
            · rw [if_neg c] at q
              exact .inr ⟨j, q⟩
/-- a slot taken back -/
theorem En.give {i : Nat} {d : D} {v : V} (en : En K C σ0 H ρ σ O) (hi : i < ρ.length) (e : σ[i]? = some (some v)) (r : Rp K H d v S) (n : ∀ a ∈ S, ∀ j, a ∉ O j) : En K C σ0 H (ρ.set i (some d)) σ (fun j => if j = i then S else O j) where
  len := by simpa using en.len
  rep := fun j x q => by
    rw [gt_set hi] at q
    by_cases c : j = i
    · subst c
      rw [if_pos rfl] at q
      cases q
      exact ⟨v, e, by rw [if_pos rfl]; exact r⟩
    · rw [if_neg c] at q
      obtain ⟨w, e1, g⟩ := en.rep j x q
      exact ⟨w, e1, by rw [if_neg c]; exact g⟩
  dj := fun j k a m m' => by
    by_cases c : j = i
    · rw [if_pos c] at m
      by_cases c' : k = i
      · rw [c, c']
      · rw [if_neg c'] at m'
        exact (n a m k m').elim
    · rw [if_neg c] at m
      by_cases c' : k = i
      · rw [if_pos c'] at m'
        exact (n a m' j m).elim
      · rw [if_neg c'] at m'
        exact en.dj j k a m m'
  mu := fun j a m => by
    by_cases c : j = i
    · rw [if_pos c] at m
      exact Rp.mu d r a m
    · rw [if_neg c] at m
      exact en.mu j a m
  pin := en.pin
theorem puts_ok {H0 : Hp} : ∀ {os : List Opd} {vs : List V} {T : List Addr} {es : List D} {U : List Addr} {ρ : Env} {O : Nat → List Addr}, En K C σ0 H ρ σ O → rOs K H0 σ os vs T → Rps K H es vs U → (∀ a ∈ U, ∀ j, a ∉ O j) →
    ∃ O', En K C σ0 H (puts ρ os es) σ O' ∧ (∀ j a, a ∈ O' j → a ∈ U ∨ ∃ j, a ∈ O j)
  | [], [], _, es, _, ρ, O, en, r, g, n => by
    cases g
    exact ⟨O, en, fun j a m => .inr ⟨j, m⟩⟩
  | [], _ :: _, _, _, _, _, _, _, r, _, _ => r.elim
  | _ :: _, [], _, _, _, _, _, _, r, _, _ => r.elim
  | .own d :: os, v :: vs, _, es, _, ρ, O, en, r, g, n => by
    obtain ⟨Sa, Sb, _, r1, r2, _⟩ := r
    cases g with
    | @cons d' _ Ua es' _ Ub h g m =>
      obtain ⟨O', en', h1⟩ := puts_ok en r2 g (fun a q => n a (List.mem_append_right _ q))
      exact ⟨O', en', fun j a q => (h1 j a q).imp (fun z => List.mem_append_right _ z) fun z => z⟩
  | .sl i :: os, v :: vs, _, es, _, ρ, O, en, r, g, n => by
    obtain ⟨Sa, Sb, _, ⟨_, rb⟩, r2, _⟩ := r
    cases g with
    | @cons d' _ Ua es' _ Ub h g m =>
      cases q : gt ρ i with
      | some x =>
        simp only [puts, q]
        obtain ⟨O', en', h1⟩ := puts_ok en r2 g (fun a q => n a (List.mem_append_right _ q))
        exact ⟨O', en', fun j a q => (h1 j a q).imp (fun z => List.mem_append_right _ z) fun z => z⟩
      | none =>
        simp only [puts, q]
        have hi : i < ρ.length := by
          rw [en.len]
          exact (List.getElem?_eq_some_iff.mp rb).1
        obtain ⟨O', en', h1⟩ := puts_ok (en.give hi rb h fun a q => n a (List.mem_append_left _ q)) r2 g (fun a q j z => by
          by_cases c : j = i
          · rw [if_pos c] at z
            exact m a z q
          · rw [if_neg c] at z
            exact n a (List.mem_append_right _ q) j z)
        refine ⟨O', en', fun j a q => ?_⟩
        rcases h1 j a q with z | ⟨k, z⟩
        · exact .inl (List.mem_append_right _ z)
        · by_cases c : k = i
          · rw [if_pos c] at z
            exact .inl (List.mem_append_left _ z)
          · rw [if_neg c] at z
            exact .inr ⟨k, z⟩
end
section
variable {X : Cx} {C : Ct} {σ0 : St} {W : WX} {e a b c : Expr} {f g h : Env → R Opd} {pos apos p : Pos} {es rest : List Expr} {fs : Env → R (List Opd)} {k np j : Nat} {fd : FuncData} {ps : List Str} {x : Str} {fa : Addr}
theorem call_ok {K : PySem.W.Frag} {σ : St} {H H1 : Hp} {O O1 : Nat → List Addr} {ρ1 : Env} {S1 : List Addr} {os : List Opd} {vs : List V} {Q : VK} (hl : ∀ ds es d x, (C.cf j ds = .ok d es ∨ C.cf j ds = .exc x es) → ds.length = np) (s : Sit K C σ0 H O ρ1 σ H1 O1 S1) (r : rOs K H1 σ os vs S1)
    (w : Wg (rO K) K C σ0 W σ H O (callR C j os ρ1) Q) : spF K np (C.cf j) vs H1 Q (WE W σ) := by
  unfold callR at w
  split at w
  case h_2 => exact w.elim
  rename_i ds ρ2 et
  obtain ⟨U, O2, g, en2, h1, h2, h3⟩ := takes_ok s.en r s.dj et
  have away : ∀ {H' : Hp} {Z : List Addr}, Far H1 U H' Z → ∀ a o, H1 a = some o → (Pst o ∨ ∃ i, a ∈ O2 i) → H' a = some o := fun far a o q z => by
    refine far.fr a o q fun m => ?_
    rcases z with z | ⟨i, z⟩
    · obtain ⟨xs, q'⟩ := Rps.mu ds g a m
      rw [q] at q'
      cases q'
      exact absurd z xs.np
    · exact h1 a m i z
  have old : ∀ a, (a ∈ U ∨ ∃ j, a ∈ O2 j) → H a = none ∨ ∃ i, a ∈ O i := fun a z => by
    rcases z with z | ⟨i, z⟩
    · rcases h2 a z with q | ⟨i, q⟩
      · exact s.st.nw a (.inl q)
      · exact s.st.nw a (.inr ⟨i, q⟩)
    · exact s.st.nw a (.inr ⟨i, h3 i a z⟩)
  have fresh : ∀ a, H1 a = none → H a = none ∨ ∃ i, a ∈ O i := fun a q => by
    cases qa : H a with
    | none => exact .inl rfl
    | some o =>
      by_cases c : ∃ i, a ∈ O i
      · exact .inr c
      · have := s.st.fr a o qa fun i m => c ⟨i, m⟩
        rw [q] at this
        cases this
  have frame : ∀ {H' : Hp} {Z : List Addr}, Far H1 U H' Z → ∀ a o, H a = some o → (∀ i, a ∉ O i) → H' a = some o := fun far a o q n => by
    refine far.fr a o (s.st.fr a o q n) fun m => ?_
    rcases old a (.inl m) with z | ⟨i, z⟩
    · rw [z] at q; cases q
    · exact n i z
  cases ec : C.cf j ds with
  | stuck => rw [ec] at w; exact w.elim
  | ok d es =>
    rw [ec] at w
    refine ⟨by rw [← g.length]; exact hl ds es d .non (.inl ec), ds, U, g, ?_⟩
    rw [ec]
    intro v H' T Z rd re dTZ far
    have en3 : En K C σ0 H' ρ2 σ O2 := en2.kp (away far)
    have nZ : ∀ a, a ∈ T ++ Z → ∀ j, a ∉ O2 j := fun a m j z => by
      rcases far.nw a m with q | q
      · obtain ⟨xs, q'⟩ := en2.mu j a z
        rw [q] at q'; cases q'
      · exact h1 a q j z
    obtain ⟨O3, en4, h4⟩ := puts_ok en3 r re fun a m => nZ a (List.mem_append_right _ m)
    refine w v H' O3 T rd ⟨en4, fun a m i z => ?_, Rp.mu d rd, frame far, fun a z => ?_⟩
    · rcases h4 i a z with q | ⟨j, q⟩
      · exact dTZ a m q
      · exact nZ a (List.mem_append_left _ m) j q
    · have all : ∀ a, a ∈ T ++ Z → H a = none ∨ ∃ i, a ∈ O i := fun a m => by
        rcases far.nw a m with q | q
        · exact fresh a q
        · exact old a (.inl q)
      rcases z with z | ⟨i, z⟩
      · exact all a (List.mem_append_left _ z)
      · rcases h4 i a z with q | ⟨j, q⟩
        · exact all a (List.mem_append_right _ q)
        · exact old a (.inr ⟨j, q⟩)
  | exc xx es =>
    rw [ec] at w
    refine ⟨by rw [← g.length]; exact hl ds es .non xx (.inr ec), ds, U, g, ?_⟩
    rw [ec]
    intro cls dd H' Z hx re far
    have en3 : En K C σ0 H' ρ2 σ O2 := en2.kp (away far)
    have nZ : ∀ a, a ∈ Z → ∀ j, a ∉ O2 j := fun a m j z => by
      rcases far.nw a m with q | q
      · obtain ⟨xs, q'⟩ := en2.mu j a z
        rw [q] at q'; cases q'
      · exact h1 a q j z
    obtain ⟨O3, en4, h4⟩ := puts_ok en3 r re nZ
    refine w cls dd H' O3 hx ⟨en4, by simp, by simp, frame far, fun a z => ?_⟩
    rcases z with z | ⟨i, z⟩
    · simp at z
    · rcases h4 i a z with q | ⟨j, q⟩
      · rcases far.nw a q with q | q
        · exact fresh a q
        · exact old a (.inl q)
      · exact old a (.inr ⟨j, q⟩)
/-- f(e, ..), f a def of the text -/
theorem pe_callF (tk : Takes X W) (F : FnOk X.prog X.w X.K X.mg X.base (L2.CX X.prog X.w) k fa fd ps (spF X.K np (C.cf j))) (hl : ∀ ds es d x, (C.cf j ds = .ok d es ∨ C.cf j ds = .exc x es) → ds.length = np) (hr : Room k X.A) (hg : Gl X x) (hm : X.mg x = some (.ref fa)) (hk : PySem.W.keepIn X.K (.ref fa) = true) (hb : Binds X.K fd ps [])
    (ha : PA X (e :: es) (TAx X C σ0 W fs)) (hdb : (x == ("__debug__" : Str)) = false) (hs : starEach (e :: es) X.env = (false, eval e X.env) :: starEach es X.env) (hplain : (backTo pos (starEach es X.env)).any (·.1) = false) :
    PE X (.Call (.Name x p) (e :: es) [] pos) (TEx X C σ0 W fun ρ => (fs ρ).bind fun os ρ1 => callR0 C j os ρ1) := pe_imp (pe_callS F hr hg hm hk hb (fun σ => passAt tk σ) ha hdb hs hplain) fun σ H Q w => by
  obtain ⟨ρ, O, en, w⟩ := w
  refine seq (rep' := rO X.K) (rep := rOs X.K) (Sit.start en) w fun os ρ1 w1 us H1 O1 S1 r1 s1 => ?_
  cases os with
  | nil =>
    have w1 : Wg (rO X.K) X.K C σ0 W σ H O (noExc (callR C j [] ρ1)) Q := w1
    have w2 : Wg (rO X.K) X.K C σ0 W σ H O (callR C j [] ρ1) Q := by
      cases q : callR C j [] ρ1 <;> rw [q] at w1 <;> first | exact w1 | exact w1.elim
    exact call_ok hl s1 r1 w2
  | cons o os => exact call_ok hl s1 r1 w1
/-- f() -/
theorem pe_callF0 (F : FnOk X.prog X.w X.K X.mg X.base (L2.CX X.prog X.w) k fa fd ps (spF X.K 0 (C.cf j))) (hr : Room k X.A) (hg : Gl X x) (hm : X.mg x = some (.ref fa)) (hk : PySem.W.keepIn X.K (.ref fa) = true) (hb : Binds X.K fd ps []) (hdb : (x == ("__debug__" : Str)) = false) :
    PE X (.Call (.Name x p) [] [] pos) (TEx X C σ0 W fun ρ => callR0 C j [] ρ) := pe_imp (pe_call0 F hr hg hm hk hb .nil (fun pins σ H s e s' I c => passL pins σ H s e s' I c) hdb) fun σ H Q w => by
  obtain ⟨ρ, O, en, w⟩ := w
  have w : Wg (rO X.K) X.K C σ0 W σ H O (noExc (callR C j [] ρ)) Q := w
  have w' : Wg (rO X.K) X.K C σ0 W σ H O (callR C j [] ρ) Q ∧ ∀ x ρ', callR C j [] ρ ≠ .exc x ρ' := by
    cases q : callR C j [] ρ <;> rw [q] at w
    · exact ⟨w, fun _ _ z => by cases z⟩
    · exact w.elim
    · exact w.elim
  refine ⟨rfl, [], [], .nil, ?_⟩
  obtain ⟨w1, w2⟩ := w'
  unfold callR at w1 w2
  simp only [takes] at w1 w2
  cases ec : C.cf j [] with
  | stuck => rw [ec] at w1; exact w1.elim
  | exc x es => rw [ec] at w2; exact absurd rfl (w2 x _)
  | ok d es =>
    rw [ec] at w1
    intro v H' T U rd re dd far
    cases re
    have far' : ∀ a o, H a = some o → H' a = some o := fun a o q => far.fr a o q (by simp)
    exact w1 v H' O T rd ⟨en.kp fun a o q _ => far' a o q, fun a m i z => by
      obtain ⟨xs, q⟩ := en.mu i a z
      rcases far.nw a (by simpa using m) with q' | q'
      · rw [q] at q'; cases q'
      · simp at q', Rp.mu d rd, fun a o q _ => far' a o q, fun a z => by
      rcases z with z | ⟨i, z⟩
      · rcases far.nw a (by simpa using z) with q' | q'
        · exact .inl q'
        · simp at q'
      · exact .inr ⟨i, z⟩⟩
end
end Aw

set_option Elab.async false
set_option linter.all false
set_option maxRecDepth 100000
set_option maxHeartbeats 800000
/-! Ev10: targets; the readings of statements without loops. -/
namespace Aw
open PySem L2 PySem.Spec
open PyProof.Rows hiding St

section
variable {K : PySem.W.Frag} {C C' : Ct} {σ0 σ0' : St} {H H1 H2 : Hp} {O O1 O2 : Nat → List Addr} {ρ ρ1 ρ2 : Env} {σ σ1 σ2 : St} {S S1 S2 T U P : List Addr}
/-- a slot is stored to -/
theorem En.store {i : Nat} {d : D} {v : V} (en : En K C σ0 H ρ σ O) (hi : i < ρ.length) (ma : mayAsg C i = true) (r : Rp K H d v S) (n : ∀ a ∈ S, ∀ j, a ∉ O j) : En K C σ0 H (ρ.set i (some d)) (σ.set i (some v)) (fun j => if j = i then S else O j) where
  len := by simpa using en.len
  rep := fun j x q => by
    rw [gt_set hi] at q
    by_cases c : j = i
    · subst c
      rw [if_pos rfl] at q
      cases q
      refine ⟨v, ?_, by rw [if_pos rfl]; exact r⟩
      rw [List.getElem?_set_self (by rw [← en.len]; exact hi)]
    · rw [if_neg c] at q
      obtain ⟨w, e1, g⟩ := en.rep j x q
      exact ⟨w, by rw [List.getElem?_set_ne (Ne.symm c)]; exact e1, by rw [if_neg c]; exact g⟩
  dj := fun j k a m m' => by
    by_cases c : j = i
    · rw [if_pos c] at m
      by_cases c' : k = i
      · rw [c, c']
      · rw [if_neg c'] at m'
        exact (n a m k m').elim
    · rw [if_neg c] at m
      by_cases c' : k = i
      · rw [if_pos c'] at m'
        exact (n a m' j m).elim
      · rw [if_neg c'] at m'
        exact en.dj j k a m m'
  mu := fun j a m => by
    by_cases c : j = i
    · rw [if_pos c] at m
      exact Rp.mu d r a m
    · rw [if_neg c] at m
      exact en.mu j a m
  pin := fun j q => by
    have c : i ≠ j := fun c => by subst c; rw [ma] at q; cases q
    rw [List.getElem?_set_ne c]
    exact en.pin j q
/-! the slots of a target -/
mutual
def Tg.slots : Tg → List Nat
  | .nm i => [i]
  | .tup ts => slotss ts
def slotss : List Tg → List Nat
  | [] => []
  | t :: ts => t.slots ++ slotss ts
end
/-- what storing to a target asks -/
structure Stored (K : PySem.W.Frag) (C : Ct) (σ0 : St) (H : Hp) (ρ' : Env) (σ σ' : St) (O' : Nat → List Addr) (O : Nat → List Addr) (S : List Addr) (is : List Nat) : Prop where
  en : En K C σ0 H ρ' σ' O'
  own : ∀ j a, a ∈ O' j → a ∈ S ∨ ∃ j, a ∈ O j
  out : ∀ j, j ∉ is → σ'[j]? = σ[j]?
  len : σ'.length = σ.length
def tTg (K : PySem.W.Frag) (C : Ct) (σ0 : St) (t : Tg) : TG := fun v σ H Q => ∃ ρ O d S ρ', En K C σ0 H ρ σ O ∧ Rp K H d v S ∧ (∀ a ∈ S, ∀ j, a ∉ O j) ∧ asgT C t d ρ = some ρ' ∧ ∀ σ' O', Stored K C σ0 H ρ' σ σ' O' O S t.slots → Q σ' H
def tTgs (K : PySem.W.Frag) (C : Ct) (σ0 : St) (ts : List Tg) : TGs := fun vs σ H Q => ∃ ρ O ds S ρ', En K C σ0 H ρ σ O ∧ Rps K H ds vs S ∧ (∀ a ∈ S, ∀ j, a ∉ O j) ∧ asgTs C ts ds ρ = some ρ' ∧ ∀ σ' O', Stored K C σ0 H ρ' σ σ' O' O S (slotss ts) → Q σ' H
end
section
variable {X : Cx} {C : Ct} {σ0 : St} {pos : Pos}
theorem pg_imp {e : Expr} {t t' : TG} (h : PG X e t) (i : ∀ v σ H Q, t' v σ H Q → t v σ H Q) : PG X e t' := ⟨fun pins s σ H v u Q I r w => h.run pins s σ H v u Q I r (i v σ H Q w)⟩
theorem pgs_imp {e : List Expr} {t t' : TGs} (h : PGs X e t) (i : ∀ v σ H Q, t' v σ H Q → t v σ H Q) : PGs X e t' := ⟨fun pins s σ H v u Q I r w => h.run pins s σ H v u Q I r (i v σ H Q w)⟩
theorem pg_nm {i : Nat} {x : Str} (hN : X.N.Nodup) (hi : X.N[i]? = some x) (hx : Loc X.env.scope x) (hf : X.fn x = true ∨ X.env.scope.names.lookup x = some .local) : PG X (.Name x pos) (tTg X.K C σ0 (.nm i)) := pg_imp (pg_name hN hi hx hf) fun v σ H Q w => by
  obtain ⟨ρ, O, d, S, ρ', en, r, n, e, k⟩ := w
  have e : put C i d ρ = some ρ' := e
  unfold put at e
  split at e <;> try contradiction
  rename_i hz
  simp only [Bool.and_eq_true, decide_eq_true_eq] at hz
  cases e
  refine k _ _ ⟨en.store hz.2 hz.1 r n, fun j a m => ?_, fun j q => ?_, ?_⟩
  · by_cases c : j = i
    · rw [if_pos c] at m
      exact .inl m
    · rw [if_neg c] at m
      exact .inr ⟨j, m⟩
  · rw [List.getElem?_set_ne fun c => q (by subst c; simp [Tg.slots])]
  · simp
theorem pgs_nil' : PGs X [] (tTgs X.K C σ0 []) := pgs_imp pgs_nil fun vs σ H Q w => by
  obtain ⟨ρ, O, ds, S, ρ', en, r, n, e, k⟩ := w
  cases ds with
  | nil =>
    cases r
    cases e
    exact ⟨rfl, k σ O ⟨en, fun j a m => .inr ⟨j, m⟩, fun _ _ => rfl, rfl⟩⟩
  | cons d ds => cases e
theorem pgs_cons' {t : Tg} {ts : List Tg} {e : Expr} {es : List Expr} (h1 : PG X e (tTg X.K C σ0 t)) (h2 : PGs X es (tTgs X.K C σ0 ts)) (hs : (assignEach (e :: es) X.env).map (·.2) = assign e X.env :: (assignEach es X.env).map (·.2)) : PGs X (e :: es) (tTgs X.K C σ0 (t :: ts)) := pgs_imp (pgs_cons h1 h2 hs) fun vs σ H Q w => by
  obtain ⟨ρ, O, ds, S, ρ', en, r, n, e, k⟩ := w
  cases ds with
  | nil => cases e
  | cons d ds =>
    simp only [asgTs] at e
    split at e <;> try contradiction
    rename_i ρ1 e1
    cases r with
    | @cons _ v Sa _ vs Sb h r m =>
      refine ⟨v, vs, rfl, ρ, O, d, Sa, ρ1, en, h, fun a q => n a (List.mem_append_left _ q), e1, fun σ1 O1 s1 => ?_⟩
      refine ⟨ρ1, O1, ds, Sb, ρ', s1.en, r, fun a q j z => ?_, e, fun σ2 O2 s2 => k σ2 O2 ⟨s2.en, fun j a q => ?_, fun j q => ?_, s2.len.trans s1.len⟩⟩
      · rcases s1.own j a z with q' | ⟨j', q'⟩
        · exact m a q' q
        · exact n a (List.mem_append_right _ q) j' q'
      · rcases s2.own j a q with z | ⟨j', z⟩
        · exact .inl (List.mem_append_right _ z)
        · exact (s1.own j' a z).imp (fun z => List.mem_append_left _ z) fun z => z
      · have q' : j ∉ t.slots ∧ j ∉ slotss ts := by
          constructor
          · exact fun z => q (by simp [slotss, z])
          · exact fun z => q (by simp [slotss, z])
        exact (s2.out j q'.2).trans (s1.out j q'.1)
theorem asgTs_len {C : Ct} : ∀ {ts : List Tg} {ds : List D} {ρ ρ' : Env}, asgTs C ts ds ρ = some ρ' → ds.length = ts.length
  | [], ds, ρ, ρ', e => by cases ds <;> first | rfl | cases e
  | t :: ts, [], ρ, ρ', e => by cases e
  | t :: ts, d :: ds, ρ, ρ', e => by
    simp only [asgTs] at e
    split at e <;> try contradiction
    simp [asgTs_len e]
theorem pg_tup' {ts : List Tg} {es : List Expr} {k : Nat} (hc : X.calm = true) (h : PGs X es (tTgs X.K C σ0 ts)) (hn : (assignEach es X.env).length = ts.length) (hst : (assignEach es X.env).findIdx? (·.1) = none) : PG X (.Tuple es k pos) (tTg X.K C σ0 (.tup ts)) := pg_imp (pg_tup hc h hn hst) fun v σ H Q w => by
  obtain ⟨ρ, O, d, S, ρ', en, r, n, e, k⟩ := w
  simp only [asgT] at e
  split at e <;> try contradiction
  rename_i ds
  obtain ⟨a, vs, rfl, q, g⟩ := r.tupI
  exact ⟨a, vs, rfl, q, by rw [← g.length]; exact asgTs_len e, ρ, O, ds, S, ρ', en, g, n, e, k⟩
end

/-! ### statements -/
def Wo (K : PySem.W.Frag) (C : Ct) (σ0 : St) (W : WX) (H : Hp) (O : Nat → List Addr) (o : Out) (D : Ends) : Prop := match o with
  | .nx ρ => ∀ σ' H' O', Sit K C σ0 H O ρ σ' H' O' [] → D.nx σ' H'
  | .bk ρ => ∀ σ' H' O', Sit K C σ0 H O ρ σ' H' O' [] → D.bk σ' H'
  | .ct ρ => ∀ σ' H' O', Sit K C σ0 H O ρ σ' H' O' [] → D.ct σ' H'
  | .rt d ρ => ∀ v σ' H' O' S', Rp K H' d v S' → Sit K C σ0 H O ρ σ' H' O' S' → D.rt v H'
  | .exc x ρ => ∀ cls dd σ' H' O', XRep K H' x cls dd → Sit K C σ0 H O ρ σ' H' O' [] → W cls dd σ' H'
  | .stuck => False
def tS (K : PySem.W.Frag) (C : Ct) (σ0 : St) (W : WX) (f : Env → Out) : TS := fun D σ H => ∃ ρ O, En K C σ0 H ρ σ O ∧ Wo K C σ0 W H O (f ρ) D
section
variable {K : PySem.W.Frag} {C : Ct} {σ0 : St} {W : WX} {H H1 H2 : Hp} {O O1 O2 : Nat → List Addr} {ρ ρ1 ρ2 : Env} {σ σ1 σ2 : St} {S S1 S2 T U P : List Addr}
theorem Wo.on {o : Out} {D : Ends} (s : Sit K C σ0 H O ρ1 σ1 H1 O1 S1) (w : Wo K C σ0 W H O o D) : Wo K C σ0 W H1 O1 o D := by
  cases o with
  | nx ρ => exact fun σ' H' O' z => w σ' H' O' (s.trans z).drop
  | bk ρ => exact fun σ' H' O' z => w σ' H' O' (s.trans z).drop
  | ct ρ => exact fun σ' H' O' z => w σ' H' O' (s.trans z).drop
  | rt d ρ => exact fun v σ' H' O' S' r z => w v σ' H' O' S' r ((s.trans z).sub fun x m => List.mem_append_right _ m)
  | exc x ρ => exact fun cls dd σ' H' O' hx z => w cls dd σ' H' O' hx (s.trans z).drop
  | stuck => exact w
/-- an expression within a statement -/
theorem seqO {α β : Type} {rep : Rl α β} {g : Env → R α} {k : α → Env → Out} {D : Ends} {Q : β → Hp → Prop} (a : Sit K C σ0 H O ρ1 σ H1 O1 S1) (h : Wo K C σ0 W H O ((g ρ1).then k) D)
    (hk : ∀ y ρ2, Wo K C σ0 W H O (k y ρ2) D → ∀ b H2 O2 S2, rep H2 σ y b S2 → Sit K C σ0 H1 O1 ρ2 σ H2 O2 S2 → Q b H2) : tG rep K C σ0 W g σ H1 Q := by
  refine ⟨ρ1, O1, a.en, ?_⟩
  cases e : g ρ1 with
  | ok y ρ2 =>
    rw [e] at h
    exact hk y ρ2 h
  | exc x ρ2 =>
    rw [e] at h
    intro cls d H' O' hx b
    exact h cls d σ H' O' hx (a.trans b).drop
  | stuck =>
    rw [e] at h
    exact h
theorem testO {g : Env → R Opd} {k : Opd → Env → Out} {D : Ends} {Q : Bool → Hp → Prop} (a : Sit K C σ0 H O ρ1 σ H1 O1 S1) (h : Wo K C σ0 W H O ((g ρ1).then k) D) (only : ∀ x ρ2, Wo K C σ0 W H O (k x ρ2) D → ∃ t, x = .own (.bl t))
    (hk : ∀ t ρ2, Wo K C σ0 W H O (k (.own (.bl t)) ρ2) D → ∀ H2 O2, Sit K C σ0 H1 O1 ρ2 σ H2 O2 [] → Q t H2) : tB' K C σ0 W g σ H1 Q := by
  refine seqO (rep := rO K) a h fun y ρ2 w b H2 O2 S2 r s => ?_
  obtain ⟨t, rfl⟩ := only y ρ2 w
  have r' : Rp K H2 (.bl t) b S2 := r
  cases r'
  exact ⟨t, rfl, hk t ρ2 w H2 O2 s⟩
/-- a store behind a value -/
theorem Sit.stored {t : Tg} {is : List Nat} (s : Sit K C σ0 H O ρ1 σ H1 O1 S1) (z : Stored K C σ0 H1 ρ2 σ σ2 O2 O1 S1 is) : Sit K C σ0 H O ρ2 σ2 H1 O2 [] :=
  ⟨z.en, by simp, by simp, s.st.fr, fun a m => by
    rcases m with m | ⟨i, m⟩
    · simp at m
    · rcases z.own i a m with q | ⟨j, q⟩
      · exact s.st.nw a (.inl q)
      · exact s.st.nw a (.inr ⟨j, q⟩)⟩
end
section
variable {X : Cx} {C : Ct} {σ0 : St} {W : WX} {e a b c tg : Expr} {f g h : Env → R Opd} {pos : Pos} {st : Stmt} {sts sts' : List Stmt}
theorem ps_imp {t t' : TS} (h : PS X st t) (i : ∀ D σ H, t' D σ H → t D σ H) : PS X st t' := ⟨fun pins s σ H D I w => h.run pins s σ H D I (i D σ H w)⟩
theorem pss_imp {t t' : TS} (h : PSs X sts t) (i : ∀ D σ H, t' D σ H → t D σ H) : PSs X sts t' := ⟨fun pins s σ H D I w => h.run pins s σ H D I (i D σ H w)⟩
abbrev TSx (X : Cx) (C : Ct) (σ0 : St) (W : WX) (f : Env → Out) : TS := tS X.K C σ0 W f
theorem pss_nil' : PSs X [] (TSx X C σ0 W fun ρ => .nx ρ) := pss_imp pss_nil fun D σ H w => by
  obtain ⟨ρ, O, en, w⟩ := w
  exact w σ H O (Sit.start en)
theorem pss_cons' {fs fr : Env → Out} (h1 : PS X st (TSx X C σ0 W fs)) (h2 : PSs X sts (TSx X C σ0 W fr)) : PSs X (st :: sts) (TSx X C σ0 W fun ρ => match fs ρ with | .nx ρ1 => fr ρ1 | o => o) := pss_imp (pss_cons h1 h2) fun D σ H w => by
  obtain ⟨ρ, O, en, w⟩ := w
  refine ⟨ρ, O, en, ?_⟩
  have w : Wo X.K C σ0 W H O (match fs ρ with | .nx ρ1 => fr ρ1 | o => o) D := w
  cases q : fs ρ with
  | nx ρ1 =>
    rw [q] at w
    exact fun σ' H' O' s => ⟨ρ1, O', s.en, Wo.on s w⟩
  | bk ρ1 => rw [q] at w; exact w
  | ct ρ1 => rw [q] at w; exact w
  | rt d ρ1 => rw [q] at w; exact w
  | exc x ρ1 => rw [q] at w; exact w
  | stuck => rw [q] at w; exact w
theorem asgS_ok {K : PySem.W.Frag} {H H1 : Hp} {O O1 : Nat → List Addr} {ρ1 : Env} {σ : St} {S1 : List Addr} {t : Tg} {o : Opd} {v : V} {D : Ends} (s : Sit K C σ0 H O ρ1 σ H1 O1 S1) (r : rO K H1 σ o v S1) (w : Wo K C σ0 W H O (asgS C t o ρ1) D) : tTg K C σ0 t v σ H1 D.nx := by
  unfold asgS at w
  cases o with
  | sl i => exact w.elim
  | own d =>
    dsimp only at w
    cases q : asgT C t d ρ1 with
    | none => rw [q] at w; exact w.elim
    | some ρ2 =>
      rw [q] at w
      exact ⟨ρ1, O1, d, S1, ρ2, s.en, r, s.dj, q, fun σ' O' z => w σ' H1 O' (s.stored (t := t) z)⟩
theorem ps_asg' {t : Tg} (he : PE X e (TEx X C σ0 W f)) (hg : PG X tg (tTg X.K C σ0 t)) (hs : swapsWithSole [tg] e pos.line X.env = pure false) (hw : swappedStores [tg] e X.env = pure none) (h1 : (assignEach [tg] X.env).map (·.2) = [assign tg X.env]) :
    PS X (.Assign [tg] e pos) (TSx X C σ0 W fun ρ => (f ρ).then fun o ρ1 => asgS C t o ρ1) := ps_imp (ps_asg he hg hs hw h1) fun D σ H w => by
  obtain ⟨ρ, O, en, w⟩ := w
  refine seqO (Sit.start en) w fun o ρ1 w1 v H1 O1 S1 r1 s1 => ?_
  exact asgS_ok s1 r1 w1
theorem ps_ex' (he : PE X e (TEx X C σ0 W f)) (hs : swapsWith e none pos.line X.env = pure false) : PS X (.Expr e pos) (TSx X C σ0 W fun ρ => (f ρ).then fun _ ρ1 => .nx ρ1) := ps_imp (ps_expr he hs) fun D σ H w => by
  obtain ⟨ρ, O, en, w⟩ := w
  refine seqO (rep := rO X.K) (Sit.start en) w fun o ρ1 w1 v H1 O1 S1 r1 s1 => ?_
  exact w1 σ H1 O1 s1.drop
theorem ps_if' {fa fb : Env → Out} (hc : PT X c (TBx X C σ0 W f)) (ha : PSs X sts (TSx X C σ0 W fa)) (hb : PSs X sts' (TSx X C σ0 W fb)) :
    PS X (.If c sts sts' pos) (TSx X C σ0 W fun ρ => (f ρ).then fun o ρ1 => match o with | .own (.bl true) => fa ρ1 | .own (.bl false) => fb ρ1 | _ => .stuck) := ps_imp (ps_if hc ha hb) fun D σ H w => by
  obtain ⟨ρ, O, en, w⟩ := w
  refine testO (Sit.start en) w (fun x ρ2 w2 => ?_) fun t ρ2 w2 H2 O2 s2 => ?_
  · cases x with
    | sl i => exact w2.elim
    | own d => cases d <;> first | exact ⟨_, rfl⟩ | exact w2.elim
  · cases t with
    | true => exact ⟨ρ2, O2, s2.en, Wo.on s2 w2⟩
    | false => exact ⟨ρ2, O2, s2.en, Wo.on s2 w2⟩
theorem ps_ret' (he : PE X e (TEx X C σ0 W f)) : PS X (.Return (some e) pos) (TSx X C σ0 W fun ρ => (f ρ).then fun o ρ1 => match o with | .own d => .rt d ρ1 | _ => .stuck) := ps_imp (ps_ret he) fun D σ H w => by
  obtain ⟨ρ, O, en, w⟩ := w
  refine seqO (rep := rO X.K) (Sit.start en) w fun o ρ1 w1 v H1 O1 S1 r1 s1 => ?_
  cases o with
  | own d => exact w1 v σ H1 O1 S1 r1 s1
  | sl i => exact w1.elim
theorem ps_retn' : PS X (.Return none pos) (TSx X C σ0 W fun ρ => .rt .non ρ) := ps_imp ps_retN fun D σ H w => by
  obtain ⟨ρ, O, en, w⟩ := w
  exact w .non σ H O [] .non (Sit.start en)
theorem ps_brk' : PS X (.Break pos) (TSx X C σ0 W fun ρ => .bk ρ) := ps_imp ps_break fun D σ H w => by
  obtain ⟨ρ, O, en, w⟩ := w
  exact w σ H O (Sit.start en)
theorem ps_cnt' : PS X (.Continue pos) (TSx X C σ0 W fun ρ => .ct ρ) := ps_imp ps_continue fun D σ H w => by
  obtain ⟨ρ, O, en, w⟩ := w
  exact w σ H O (Sit.start en)
theorem ps_pass' : PS X (.Pass pos) (TSx X C σ0 W fun ρ => .nx ρ) := ps_imp ps_pass fun D σ H w => by
  obtain ⟨ρ, O, en, w⟩ := w
  exact w σ H O (Sit.start en)
/-- return of a name: what is the def's own goes out -/
theorem ps_retV {i : Nat} (h : PE X e (tVar i)) : PS X (.Return (some e) pos) (TSx X C σ0 W fun ρ => retV C i ρ) := by
  refine ⟨fun pins s σ H D I w => ?_⟩
  obtain ⟨ρ, O, en, w⟩ := w
  have w : Wo X.K C σ0 W H O (retV C i ρ) D := w
  cases q : gt ρ i with
  | none => simp [retV, q] at w; exact w.elim
  | some d =>
    by_cases z : d.fzn = true
    · simp [retV, q, z] at w
      obtain ⟨v, e1, r⟩ := en.rep i d q
      exact (ps_ret h).run pins s σ H D I ⟨v, e1, w v σ H O [] (r.fz_of z) (Sit.start en)⟩
    · by_cases c : C.np ≤ i
      · simp [retV, q, z, c] at w
        obtain ⟨v, e1, r⟩ := en.rep i d q
        refine (ps_ret h).run pins s σ H D I ⟨v, e1, w v σ H _ (O i) r ⟨en.clear (i := i), fun a m j m' => ?_, Rp.mu d r, fun a o q _ => q, fun a m => ?_⟩⟩
        · by_cases cj : j = i
          · rw [if_pos cj] at m'; simp at m'
          · rw [if_neg cj] at m'
            exact cj (en.dj j i a m' m)
        · rcases m with m | ⟨j, m⟩
          · exact .inr ⟨i, m⟩
          · by_cases cj : j = i
            · rw [if_pos cj] at m; simp at m
            · rw [if_neg cj] at m
              exact .inr ⟨j, m⟩
      · simp [retV, q, z, c] at w
        obtain ⟨H', v, O', I', e1, r', s'⟩ := frz_slot I en q
        exact (ps_ret h).run pins s σ H' D I' ⟨v, e1, w v σ H' O' [] r' s'⟩
end
end Aw

set_option Elab.async false
set_option linter.all false
set_option maxRecDepth 100000
set_option maxHeartbeats 800000
/-! Ev11: stores into lists; what is walked; loops. -/
namespace Aw
open PySem L2 PySem.Spec
open PyProof.Rows hiding St

section
variable {K : PySem.W.Frag} {C : Ct} {σ0 : St} {H H1 H2 : Hp} {O O1 O2 : Nat → List Addr} {ρ ρ1 ρ2 : Env} {σ σ1 σ2 : St} {S S1 S2 T U P : List Addr}
theorem Rps.set : ∀ {ds : List D} {vs : List V} {S T : List Addr} {d : D} {v : V} (n : Nat), Rps K H ds vs S → Rp K H d v T → (∀ a ∈ T, a ∉ S) → ∃ S', Rps K H (ds.set n d) (vs.set n v) S' ∧ ∀ a ∈ S', a ∈ S ∨ a ∈ T
  | [], _, _, T, d, v, n, r, g, m => by cases r; exact ⟨[], .nil, by simp⟩
  | x :: ds, _, _, T, d, v, 0, r, g, m => by
    cases r with
    | cons h r k => exact ⟨T ++ _, .cons g r fun a q q' => m a q (List.mem_append_right _ q'), fun a q => by
        rcases List.mem_append.mp q with q | q
        · exact .inr q
        · exact .inl (List.mem_append_right _ q)⟩
  | x :: ds, _, _, T, d, v, n + 1, r, g, m => by
    cases r with
    | @cons _ w Sa _ vs Sb h r k =>
      obtain ⟨S', r', k'⟩ := Rps.set n r g fun a q q' => m a q (List.mem_append_right _ q')
      refine ⟨Sa ++ S', .cons h r' fun a q q' => ?_, fun a q => ?_⟩
      · rcases k' a q' with z | z
        · exact k a q z
        · exact m a z (List.mem_append_left _ q)
      · rcases List.mem_append.mp q with q | q
        · exact .inl (List.mem_append_left _ q)
        · exact (k' a q).imp (fun z => List.mem_append_right _ z) fun z => z
end
section
variable {X : Cx} {C : Ct} {σ0 : St} {W : WX} {e a b c tg : Expr} {f g h : Env → R Opd} {pos p2 : Pos} {st : Stmt} {sts sts' : List Stmt} {i : Nat}
def rSetA : V → V → V → Hp → (Hp → Prop) → Prop := fun o i v H Q => rSetL o i v H Q ∨ ∃ a H', o = .ref a ∧ DPut H a i v H' ∧ Q H'
theorem set_any (hu : X.A.units + 65 < cLine) : PSet X rSetA := by
  intro pins s σ H o i v ov iv u Q I ro ri rv h
  rcases h with h | ⟨a, H', rfl, g, q⟩
  · exact set_list pins s σ H o i v ov iv u Q I ro ri rv h
  · cases ro
    exact d_setItem (by omega) I g ri rv fun s' I' => ⟨H', I', q⟩
theorem putV_gen {κ : Type} [DecidableEq κ] {K : PySem.W.Frag} {H : Hp} (f : κ → D) (hf : ∀ a b, (f a).same (f b) = decide (a = b)) (k : κ) {d : D} {v : V} (rd : Rp K H d v []) : ∀ {kvs : List (κ × V)} {ds : List D}, Rps K H ds (kvs.map (·.2)) [] →
    Rps K H (dRepl (f k) d (kvs.map fun kv => f kv.1) ds) ((kvs.map fun kv => if kv.1 = k then (kv.1, v) else kv).map (·.2)) []
  | [], [], _ => .nil
  | [], _ :: _, r => by cases r
  | _ :: _, [], r => by cases r
  | p :: kvs, e :: ds, r => by
    obtain ⟨r1, r2⟩ := r.split
    have ih := putV_gen f hf k rd r2
    simp only [List.map_cons, dRepl, hf]
    by_cases c : p.1 = k
    · simp only [c, decide_true, if_true]
      exact .cons0 rd ih
    · simp only [c, decide_false, Bool.false_eq_true, if_false]
      exact .cons0 r1 ih
theorem put_gen {κ : Type} [DecidableEq κ] {K : PySem.W.Frag} {H : Hp} (f : κ → D) (hf : ∀ a b, (f a).same (f b) = decide (a = b)) (k : κ) {d : D} {v : V} (rd : Rp K H d v []) {kvs : List (κ × V)} {ds : List D} (r : Rps K H ds (kvs.map (·.2)) []) :
    (putK kvs k v).map (fun kv => f kv.1) = dPutK (f k) (kvs.map fun kv => f kv.1) ∧ Rps K H (dPutV (f k) d (kvs.map fun kv => f kv.1) ds) ((putK kvs k v).map (·.2)) [] := by
  unfold putK dPutK dPutV
  rw [has_gen f hf k kvs, ← valV_any]
  by_cases c : (kvs.any fun kv => decide (kv.1 = k)) = true
  · simp only [if_pos c]
    refine ⟨?_, putV_gen f hf k rd r⟩
    rw [List.map_map]
    refine List.map_congr_left fun kv _ => ?_
    simp only [Function.comp]
    split <;> rfl
  · simp only [if_neg c]
    refine ⟨by simp, ?_⟩
    rw [List.map_append]
    exact Rps.app0 r (.cons0 rd .nil)
theorem dput_of {K : PySem.W.Frag} {H : Hp} {t : Bool} {ks ds : List D} {us : List V} {m : MuO} {k d : D} {y v : V} {l : Addr} {T : List Addr} (hl : H l = some m.ho) (o : DicO t ks us m.ho) (r : Rps K H ds us []) (g : Rp K H k y T) (hk : keyOk t k = true) (hz : ks.length < sizeLine) (rd : Rp K H d v []) :
    ∃ (m' : MuO) (us' : List V), DPut H l y v (upd H l m'.ho) ∧ DicO t (dPutK k ks) us' m'.ho ∧ Rps K H (dPutV k d ks ds) us' [] := by
  rcases key_ok g hk with ⟨rfl, x, rfl, rfl⟩ | ⟨rfl, x, b, rfl, rfl, hb⟩
  · generalize hq : m.ho = u at o hl
    cases o with
    | k kvs =>
      obtain ⟨e1, e2⟩ := put_gen keyD same_key x rd r
      refine ⟨.dK (putK kvs x v), _, .k hl (by simpa using hz), ?_, e2⟩
      rw [← e1]
      exact .k _
  · generalize hq : m.ho = u at o hl
    cases o with
    | t kvs =>
      obtain ⟨e1, e2⟩ := put_gen (fun k => D.tup (k.map keyD)) same_keys x rd r
      refine ⟨.dT (putK kvs x v), _, .t hl hb (by simpa using hz), ?_, e2⟩
      rw [← e1]
      exact .t _
theorem hasSub_ok {o : Option D} (h : hasSub o = true) : (∃ xs, o = some (.lst false xs)) ∨ ∃ t ks ds, o = some (.dct false t ks ds) := by
  unfold hasSub at h
  split at h
  · exact .inl ⟨_, rfl⟩
  · exact .inr ⟨_, _, _, rfl⟩
  · cases h
theorem ps_sub' (hu : X.A.units + 65 < cLine) (ho : PE X a (tVar i)) (hi : PE X b (TEx X C σ0 W g)) (he : PE X e (TEx X C σ0 W f))
    (ha : ∀ v, assign (.Subscript a b p2) X.env v = (do
      let ov ← holding [v] (eval a X.env)
      let iv ← holding [v, ov] (eval b X.env)
      standAt p2
      holding [v, ov, iv] (setItem ov iv v)
      release [v, ov, iv] [])) (hs : swapsWithSole [.Subscript a b p2] e pos.line X.env = pure false) (hw : swappedStores [.Subscript a b p2] e X.env = pure none) (h1 : (assignEach [.Subscript a b p2] X.env).map (·.2) = [assign (.Subscript a b p2) X.env]) :
    PS X (.Assign [.Subscript a b p2] e pos) (TSx X C σ0 W fun ρ => (f ρ).then fun o ρ1 => if hasSub (gt ρ1 i) then (g ρ1).then fun p ρ2 => subK i o p ρ2 else .stuck) := ps_imp (ps_asg he (pg_sub ho hi (set_any hu) ha) hs hw h1) fun D σ H w => by
  obtain ⟨ρ, O, en, w⟩ := w
  refine seqO (Sit.start en) w fun o ρ1 w1 v H1 O1 S1 r1 s1 => ?_
  split at w1
  case isFalse => exact w1.elim
  rename_i hsub
  obtain ⟨l, e1⟩ : ∃ l, σ[i]? = some (some (.ref l)) := by
    rcases hasSub_ok hsub with ⟨xs, q⟩ | ⟨t, ks, ds, q⟩
    · obtain ⟨l, _, _, e1, _⟩ := s1.en.own q
      exact ⟨l, e1⟩
    · obtain ⟨l, _, _, e1, _⟩ := s1.en.ownD q
      exact ⟨l, e1⟩
  refine ⟨.ref l, e1, ?_⟩
  refine seqO (rep := rO X.K) s1 w1 fun p ρ2 w2 u H2 O2 S2 r2 s2 => ?_
  unfold subK at w2
  split at w2
  · rename_i d j xs q1 q2
    split at w2
    · rename_i n en
      have s12 := s1.trans s2
      obtain ⟨T, rj⟩ := s2.get r2 q1
      cases rj
      obtain ⟨l', vs, Si, e2, hl, hO, nl, r⟩ := s2.en.own q2
      cases e1.symm.trans e2
      have rd : Rp X.K H2 d v S1 := s1.carry (o := .own d) s2 r1 fun x m => m
      have dj : ∀ z ∈ S1, z ∉ Si ∧ z ≠ l := fun z m => ⟨fun m' => s12.dj z (List.mem_append_left _ m) i (by rw [hO]; exact List.mem_cons_of_mem _ m'), fun m' => s12.dj z (List.mem_append_left _ m) i (by rw [hO, m']; exact List.mem_cons_self)⟩
      obtain ⟨S', r', k'⟩ := Rps.set n r rd fun z m => (dj z m).1
      obtain ⟨O3, s3, _⟩ := s12.mutate (P := []) (U := S') q2 e2 hl hO r' (fun z m => (k' z m).imp (fun q => q) fun q => List.mem_append_left _ q) (fun m => by
        rcases k' l m with q | q
        · exact nl q
        · exact (dj l q).2 rfl) (by simp) (by simp) (by simp)
      exact .inl ⟨l, vs, j, n, rfl, rfl, hl, by rw [← r.length]; exact en, w2 σ _ O3 s3⟩
    · exact w2.elim
  · rename_i d k t ks ds q1 q2
    split at w2
    case isFalse => exact w2.elim
    rename_i hz
    simp only [Bool.and_eq_true, decide_eq_true_eq] at hz
    have s12 := s1.trans s2
    obtain ⟨T, rk⟩ := s2.get r2 q1
    obtain ⟨l', us, m, e2, hl, hO, od, r⟩ := s2.en.ownD q2
    cases e1.symm.trans e2
    have rd : Rp X.K H2 d v [] := (s1.carry (o := .own d) s2 r1 fun x m => m : Rp X.K H2 d v S1).fz_of hz.1.1
    obtain ⟨m', us', put, o', r'⟩ := dput_of hl od r rk hz.1.2 hz.2 rd
    obtain ⟨O3, s3, _⟩ := s12.mutG (m0 := m) (m1 := m') (d1 := .dct false t (dPutK k ks) (dPutV k d ks ds)) (P := []) (U := []) q2 e2 hl hO (.dct upd_same o' (Rps.kp _ r' fun a o h p => by
      rw [upd_ne fun q => ?_]
      · exact h
      · subst q
        rw [hl] at h
        cases h
        rcases p with p | p
        · exact m.np p
        · simp at p)) (by simp) (by simp) (by simp) (by simp) (by simp) (by simp)
    exact .inr ⟨l, _, rfl, put, w2 σ _ O3 s3⟩
  · exact w2.elim
theorem ip_d : ∀ o : Op2, PIp X (opOf o) (r2 X.K (dAug o)) := by
  intro o pins s σ H x y v u Q I rx ry h
  obtain ⟨d, e, T, U, z, hd, he, hk, q⟩ := h
  unfold dAug at hk
  split at hk <;> try contradiction
  · cases hk; cases hd; cases he
    exact iop_add pins s σ H _ _ v u Q I rx ry ⟨_, _, rfl, rfl, q_int q⟩
  · split at hk <;> try contradiction
    rename_i hz
    cases hk; cases hd; cases he
    exact iop_add_str pins s σ H _ _ v u Q I rx ry ⟨_, _, rfl, rfl, hz, q_str q⟩
  · cases hk; cases hd; cases he
    exact iop_sub pins s σ H _ _ v u Q I rx ry ⟨_, _, rfl, rfl, q_int q⟩
  · split at hk <;> try contradiction
    rename_i hz
    cases hk; cases hd; cases he
    exact iop_mul pins s σ H _ _ v u Q I rx ry ⟨_, _, rfl, rfl, .inr hz, q_int q⟩
theorem ps_aug' {o : Op2} {x : Str} (hN : X.N.Nodup) (hi : X.N[i]? = some x) (hx : Loc X.env.scope x) (hf : X.fn x = true ∨ X.env.scope.names.lookup x = some .local) (he : PE X e (TEx X C σ0 W f)) :
    PS X (.AugAssign (.Name x p2) (opOf o) e pos) (TSx X C σ0 W fun ρ => match gt ρ i with
      | some x => if x.fzn then (f ρ).then fun y ρ1 => augK C i o x y ρ1 else .stuck
      | none => .stuck) := ps_imp (ps_aug hN hi hx he (ip_d o) hf) fun D σ H w => by
  obtain ⟨ρ, O, en, w⟩ := w
  have w : Wo X.K C σ0 W H O (match gt ρ i with
      | some x => if x.fzn then (f ρ).then fun y ρ1 => augK C i o x y ρ1 else .stuck
      | none => .stuck) D := w
  cases q : gt ρ i with
  | none => rw [q] at w; exact w.elim
  | some x =>
    rw [q] at w
    dsimp only at w
    by_cases z : x.fzn = true
    · rw [if_pos z] at w
      obtain ⟨v, e1, r⟩ := en.rep i x q
      refine ⟨v, e1, ?_⟩
      refine seqO (rep := rO X.K) (Sit.start en) w fun y ρ1 w1 u H1 O1 S1 r1 s1 => ?_
      unfold augK at w1
      split at w1
      · rename_i y' qy
        split at w1
        · rename_i d qd
          split at w1
          · rename_i ρ2 qp
            obtain ⟨T, ry⟩ := s1.get r1 qy
            have rx : Rp X.K H1 x v [] := Rp.kp x (r.fz_of z) ((Sit.start en).kp s1)
            refine ⟨x, y', [], T, d, rx, ry, qd, fun w' H' S' n => ?_⟩
            have s2 := s1.ext n
            unfold put at qp
            split at qp <;> try contradiction
            rename_i hz
            simp only [Bool.and_eq_true, decide_eq_true_eq] at hz
            cases qp
            have en2 := s2.en.store hz.2 hz.1 n.rp s2.dj
            exact w1 _ H' _ (s2.stored (t := .nm i) (is := [i]) ⟨en2, fun j a m => by
              by_cases c : j = i
              · rw [if_pos c] at m; exact .inl m
              · rw [if_neg c] at m; exact .inr ⟨j, m⟩, fun j q => by rw [List.getElem?_set_ne fun c => q (by subst c; simp)], by simp⟩)
          · exact w1.elim
        · exact w1.elim
      · exact w1.elim
    · rw [if_neg z] at w
      exact w.elim
/-! ### what is walked -/
def YD (K : PySem.W.Frag) (xs : List D) : Nat → Hp → V → Hp → Prop := fun i H x H' => (∀ a o, H a = some o → H' a = some o) ∧ ∀ d, xs[i]? = some d → Rp K H' d x []
def rW (K : PySem.W.Frag) (C : Ct) : Rl (List D × Grd) L2.It := fun H σ xg J S => ∃ keep : Hp → Prop, Walk J xg.1.length keep (YD K xg.1) ∧
  (∀ H' ρ' σ' O', En K (C.lock xg.2) σ H' ρ' σ' O' → Kp H H' S → gOk xg.2 ρ' = true → keep H') ∧
  ∀ (X : Cx) (pins : List (Addr × Obj)) (s : Shared), X.K = K → Inv X pins σ H s → xg.1.length ≤ sizeLine
abbrev TWx (X : Cx) (C : Ct) (σ0 : St) (W : WX) (f : Env → R (List D × Grd)) : TI := tG (rW X.K C) X.K C σ0 W f
theorem grd_keep {K : PySem.W.Frag} {H H1 : Hp} {O O1 : Nat → List Addr} {ρ1 : Env} {σ : St} {S1 T : List Addr} {o : Opd} {v : V} {d : D} (s : Sit K C σ0 H O ρ1 σ H1 O1 S1) (r : rO K H1 σ o v T) (sub : ∀ x ∈ T, x ∈ S1) (e : o.get ρ1 = some d) {gs : Grd} (hg : ∀ g ∈ grdOf o d, g ∈ gs) :
    ∀ H' ρ' σ' O', En K (C.lock gs) σ H' ρ' σ' O' → Kp H1 H' S1 → gOk gs ρ' = true → ∃ T', Rp K H' d v T' := fun H' ρ' σ' O' en kp ok => by
  cases o with
  | own x =>
    cases e
    exact ⟨T, Rp.kp d r (kp.sub sub)⟩
  | sl i =>
    obtain ⟨w, e1, r1⟩ := s.en.rep i d e
    cases r.2.symm.trans e1
    by_cases z : d.fzn = true
    · exact ⟨[], Rp.kp d (r1.fz_of z) (kp.sub (by simp))⟩
    · have m : (i, d) ∈ gs := hg _ (by simp [grdOf, z])
      have ok1 := List.all_eq_true.mp ok _ m
      dsimp only at ok1
      split at ok1
      · rename_i d' qd
        have ed := same_ok _ _ ok1
        subst ed
        obtain ⟨w', e2, r2⟩ := en.rep i d' qd
        have lk : mayAsg (C.lock gs) i = false := by
          have : (C.lock gs).lk.contains i = true := by
            simp only [Ct.lock, List.contains_iff_mem, List.mem_append, List.mem_map]
            exact .inl ⟨_, m, rfl⟩
          unfold mayAsg
          rw [this]
          rfl
        have e3 := en.pin i lk
        rw [e2, r.2] at e3
        cases e3
        exact ⟨O' i, r2⟩
      · cases ok1
theorem items_at {K : PySem.W.Frag} {H : Hp} {ds : List D} {vs : List V} {T : List Addr} (r : Rps K H ds vs T) (z : fzns ds = true) {i : Nat} {x : V} (e : vs[i]? = some x) : ∀ d, ds[i]? = some d → Rp K H d x [] := fun d q => by
  obtain ⟨v, e1, h⟩ := (r.fz_of z).get0 q
  cases e.symm.trans e1
  exact h
/-- over a list, a tuple, a text -/
def itK (o : Opd) (ρ1 : Env) : R (List D × Grd) := match o.get ρ1 with
  | some d => match items d with
    | some xs => .ok (xs, grdOf o d) ρ1
    | none => .stuck
  | none => .stuck
theorem pi_e (ha : PE X a (TEx X C σ0 W f)) : PI X tg a (TWx X C σ0 W fun ρ => (f ρ).bind itK) := by
  refine ⟨fun pins s σ H Q I w => ?_⟩
  obtain ⟨ρ, O, en, w⟩ := w
  have w : Wg (rW X.K C) X.K C σ0 W σ H O ((f ρ).bind itK) Q := w
  cases q : f ρ with
  | stuck => rw [q] at w; exact w.elim
  | exc x ρ1 =>
    rw [q] at w
    exact (pi_list (tg := tg) ha).run pins s σ H Q I ⟨ρ, O, en, by rw [q]; exact w⟩
  | ok o ρ1 =>
    rw [q] at w
    have w : Wg (rW X.K C) X.K C σ0 W σ H O (itK o ρ1) Q := w
    unfold itK at w
    split at w
    · rename_i d ed
      split at w
      · rename_i xs ex
        unfold items at ex
        split at ex <;> try contradiction
        · split at ex <;> try contradiction
          rename_i ys hz
          cases ex
          refine (pi_tup (tg := tg) ha).run pins s σ H Q I ⟨ρ, O, en, ?_⟩
          rw [q]
          intro v H' O' S' r s'
          obtain ⟨T, g⟩ := s'.get r ed
          obtain ⟨p, vs, rfl, h1, h2⟩ := g.tupI
          refine ⟨p, rfl, ⟨vs, h1⟩, w _ H' O' S' ⟨fun H' => ∃ T, Rp X.K H' (.tup xs) (.ref p) T, ⟨fun i H hi ⟨T, k⟩ => ?_, fun H ⟨T, k⟩ => ?_, fun i H x H' hi ⟨T, k⟩ y => ?_⟩, grd_keep s' r (fun x m => m) ed fun g m => m, fun Y pins s eK I => by
            obtain ⟨us, rv, _, hz⟩ := I.tuple (a := p) (xs := vs) (by rw [eK]; exact h1)
            show xs.length ≤ _
            rw [h2.length]
            exact hz⟩ s'⟩
          · obtain ⟨p', ws, e, k1, k2⟩ := k.tupI
            cases e
            have hl : i < ws.length := by rw [← k2.length]; exact hi
            exact ⟨ws, ws[i], k1, List.getElem?_eq_getElem hl⟩
          · obtain ⟨p', ws, e, k1, k2⟩ := k.tupI
            cases e
            exact ⟨ws, k1, by rw [← k2.length]; exact Nat.le_refl _⟩
          · obtain ⟨p', ws, e, k1, k2⟩ := k.tupI
            cases e
            obtain ⟨rfl, y⟩ := y
            exact ⟨fun a o z => z, items_at k2 hz (y ws k1)⟩
        · split at ex <;> try contradiction
          rename_i ys hz
          cases ex
          refine (pi_list (tg := tg) ha).run pins s σ H Q I ⟨ρ, O, en, ?_⟩
          rw [q]
          intro v H' O' S' r s'
          obtain ⟨T, g⟩ := s'.get r ed
          obtain ⟨p, vs, _, rfl, h1, h2, _⟩ := g.lstI
          refine ⟨p, rfl, ⟨vs, h1⟩, w _ H' O' S' ⟨fun H' => ∃ T, Rp X.K H' (.lst _ xs) (.ref p) T, ⟨fun i H hi ⟨T, k⟩ => ?_, fun H ⟨T, k⟩ => ?_, fun i H x H' hi ⟨T, k⟩ y => ?_⟩, grd_keep s' r (fun x m => m) ed fun g m => m, fun Y pins s eK I => by
            obtain ⟨us, rv, _, hz⟩ := I.list (a := p) (xs := vs) (by rw [eK]; exact h1)
            show xs.length ≤ _
            rw [h2.length]
            exact hz⟩ s'⟩
          · obtain ⟨p', ws, _, e, k1, k2, _⟩ := k.lstI
            cases e
            have hl : i < ws.length := by rw [← k2.length]; exact hi
            exact ⟨ws, ws[i], k1, List.getElem?_eq_getElem hl⟩
          · obtain ⟨p', ws, _, e, k1, k2, _⟩ := k.lstI
            cases e
            exact ⟨ws, k1, by rw [← k2.length]; exact Nat.le_refl _⟩
          · obtain ⟨p', ws, _, e, k1, k2, _⟩ := k.lstI
            cases e
            obtain ⟨rfl, y⟩ := y
            exact ⟨fun a o z => z, items_at k2 hz (y ws k1)⟩
        · split at ex <;> try contradiction
          rename_i z hz
          cases ex
          refine (pi_str (tg := tg) ha).run pins s σ H Q I ⟨ρ, O, en, ?_⟩
          rw [q]
          intro v H' O' S' r s'
          obtain ⟨T, g⟩ := s'.get r ed
          cases g
          refine ⟨z, rfl, w _ H' O' S' ⟨fun _ => True, ?_, fun _ _ _ _ _ _ _ => trivial, fun _ _ _ _ _ => by simpa [chars, Str.length] using hz⟩ s'⟩
          have el : (chars z).length = z.cps.size := by simp [chars]
          show Walk (Its z) (chars z).length _ _
          rw [el]
          refine (walk_str (z := z)).mono (fun _ h => h) fun i H x H' hi _ ⟨e, c, hc, ev⟩ => ?_
          subst e ev
          refine ⟨fun a o z => z, fun d qd => ?_⟩
          have : d = .str ⟨#[c]⟩ := by
            simp only [chars, List.getElem?_map, Array.getElem?_toList, hc, Option.map_some, Option.some.injEq] at qd
            exact qd.symm
          subst this
          exact .str _
      · exact w.elim
    · exact w.elim
theorem rng_walk {K : PySem.W.Frag} {lo : Int} {n : Nat} : Walk (Itr lo n) (rngL lo n).length (fun _ => True) (YD K (rngL lo n)) := by
  have el : (rngL lo n).length = n := by simp [rngL]
  rw [el]
  refine (walk_range (lo := lo) (n := n)).mono (fun _ h => h) fun i H x H' hi _ ⟨e, ev⟩ => ?_
  subst e ev
  refine ⟨fun a o z => z, fun d qd => ?_⟩
  have : d = .int (lo + (i : Int)) := by
    simp only [rngL, List.getElem?_map] at qd
    rw [List.getElem?_range hi] at qd
    simpa using qd.symm
  subst this
  exact .int _
def rngK (os : List Opd) (ρ1 : Env) : R (List D × Grd) := match (gets ρ1 os).bind dRng with
  | some xs => .ok (xs, []) ρ1
  | none => .stuck
theorem pi_rng1 {fs : Env → R (List Opd)} {p : Pos} (hg : Gl X "range") (hm : X.mg "range" = none) (ha : PA X [a] (TAx X C σ0 W fs)) (hs : starEach [a] X.env = [(false, eval a X.env)]) (one : ∀ ρ os ρ1, fs ρ = .ok os ρ1 → os.length = 1) :
    PI X tg (.Call (.Name "range" p) [a] [] pos) (TWx X C σ0 W fun ρ => (fs ρ).bind rngK) := ⟨fun pins s σ H Q I w => (pi_range1 (tg := tg) hg hm ha hs).run pins s σ H Q I (by
  obtain ⟨ρ, O, en, w⟩ := w
  have w : Wg (rW X.K C) X.K C σ0 W σ H O ((fs ρ).bind rngK) Q := w
  refine ⟨ρ, O, en, ?_⟩
  cases q : fs ρ with
  | stuck => rw [q] at w; exact w.elim
  | exc x ρ1 => rw [q] at w; exact w
  | ok os ρ1 =>
    rw [q] at w
    have w : Wg (rW X.K C) X.K C σ0 W σ H O (rngK os ρ1) Q := w
    have l1 := one ρ os ρ1 q
    intro vs H' O' S' r s'
    unfold rngK at w
    split at w
    · rename_i xs ex
      obtain ⟨ds, e1, e2⟩ := Option.bind_eq_some_iff.mp ex
      have rep := gets_ok s' r e1
      have ld : ds.length = 1 := by
        match os, ds, l1, e1 with
        | [o], ds, _, e1 =>
          simp only [gets] at e1
          split at e1 <;> cases e1
          rfl
      match ds, ld with
      | [d], _ =>
        unfold dRng at e2
        split at e2 <;> try contradiction
        · rename_i n heq
          split at e2 <;> try contradiction
          rename_i hz
          cases e2
          cases heq
          obtain ⟨v, vs', T, rfl, g1, g2⟩ := rep1 rep
          cases rep0 g2
          cases g1
          have hl : (sizeLine : Int) = 16777216 := by rw [sizeLine_eq]; rfl
          refine ⟨n, rfl, hz.1, by omega, w _ H' O' S' ⟨fun _ => True, rng_walk, fun _ _ _ _ _ _ _ => trivial, fun _ _ _ _ _ => by simp only [rngL, List.length_map, List.length_range]; omega⟩ s'⟩
        · rename_i heq
          cases heq
    · exact w.elim)⟩
theorem pi_rng2 {fs : Env → R (List Opd)} {p : Pos} (hg : Gl X "range") (hm : X.mg "range" = none) (ha : PA X [a, b] (TAx X C σ0 W fs)) (hs : starEach [a, b] X.env = [(false, eval a X.env), (false, eval b X.env)]) (hs2 : starEach [b] X.env = [(false, eval b X.env)]) (two : ∀ ρ os ρ1, fs ρ = .ok os ρ1 → os.length = 2) :
    PI X tg (.Call (.Name "range" p) [a, b] [] pos) (TWx X C σ0 W fun ρ => (fs ρ).bind rngK) := ⟨fun pins s σ H Q I w => (pi_range2 (tg := tg) hg hm ha hs hs2).run pins s σ H Q I (by
  obtain ⟨ρ, O, en, w⟩ := w
  have w : Wg (rW X.K C) X.K C σ0 W σ H O ((fs ρ).bind rngK) Q := w
  refine ⟨ρ, O, en, ?_⟩
  cases q : fs ρ with
  | stuck => rw [q] at w; exact w.elim
  | exc x ρ1 => rw [q] at w; exact w
  | ok os ρ1 =>
    rw [q] at w
    have w : Wg (rW X.K C) X.K C σ0 W σ H O (rngK os ρ1) Q := w
    have l1 := two ρ os ρ1 q
    intro vs H' O' S' r s'
    unfold rngK at w
    split at w
    · rename_i xs ex
      obtain ⟨ds, e1, e2⟩ := Option.bind_eq_some_iff.mp ex
      have rep := gets_ok s' r e1
      have ld : ds.length = 2 := by
        match os, ds, l1, e1 with
        | [o, o'], ds, _, e1 =>
          simp only [gets] at e1
          split at e1 <;> try cases e1
          split at e1 <;> try cases e1
          rename_i h
          split at h <;> cases h
          rfl
      match ds, ld with
      | [d, d'], _ =>
        unfold dRng at e2
        split at e2 <;> try contradiction
        · rename_i heq
          cases heq
        · rename_i lo hi heq
          split at e2 <;> try contradiction
          rename_i hz
          cases e2
          cases heq
          obtain ⟨v, vs', T, rfl, g1, g2⟩ := rep1 rep
          obtain ⟨v', vs'', T', rfl, g1', g2⟩ := rep1 g2
          cases rep0 g2
          cases g1
          cases g1'
          exact ⟨lo, hi, rfl, ⟨hz.1, hz.2.1, hz.2.2.1, hz.2.2.2.1⟩, w _ H' O' S' ⟨fun _ => True, rng_walk, fun _ _ _ _ _ _ _ => trivial, fun _ _ _ _ _ => by simp only [rngL, List.length_map, List.length_range]; omega⟩ s'⟩
    · exact w.elim)⟩
end
end Aw

set_option Elab.async false
set_option linter.all false
set_option maxRecDepth 100000
set_option maxHeartbeats 800000
/-! Ev12: loops. -/
namespace Aw
open PySem L2 PySem.Spec
open PyProof.Rows hiding St

section
variable {K : PySem.W.Frag} {C : Ct} {σ0 : St} {H H1 H2 : Hp} {O O1 O2 : Nat → List Addr} {ρ ρ1 ρ2 : Env} {σ σ1 σ2 : St} {S S1 S2 T U P : List Addr} {gs : Grd}
theorem En.lock (en : En K C σ0 H ρ σ O) : En K (C.lock gs) σ H ρ σ O := ⟨en.len, en.rep, en.dj, en.mu, fun _ _ => rfl⟩
theorem lock_may {i : Nat} (h : mayAsg C i = false) : mayAsg (C.lock gs) i = false := by
  unfold mayAsg at h ⊢
  simp only [Ct.lock, Bool.and_eq_false_iff, Bool.not_eq_false'] at h ⊢
  rcases h with h | h
  · exact .inl (by simp only [List.contains_iff_mem, List.mem_append] at h ⊢; exact .inr h)
  · exact .inr h
theorem En.unlock (pin : ∀ i, mayAsg C i = false → σ[i]? = σ0[i]?) (en : En K (C.lock gs) σ H ρ1 σ1 O) : En K C σ0 H ρ1 σ1 O := ⟨en.len, en.rep, en.dj, en.mu, fun i h => (en.pin i (lock_may h)).trans (pin i h)⟩
theorem Sit.unlock (pin : ∀ i, mayAsg C i = false → σ[i]? = σ0[i]?) (s : Sit K (C.lock gs) σ H O ρ1 σ1 H1 O1 S) : Sit K C σ0 H O ρ1 σ1 H1 O1 S := ⟨s.en.unlock pin, s.dj, s.mu, s.st⟩
theorem Sit.lock (s : Sit K C σ0 H O ρ1 σ H1 O1 S) : Sit K (C.lock gs) σ H O ρ1 σ H1 O1 S := ⟨s.en.lock, s.dj, s.mu, s.st⟩
/-- more in the heap, all else as it was -/
theorem Sit.grow (s : Sit K C σ0 H O ρ1 σ1 H1 O1 S) (ex : ∀ a o, H1 a = some o → H2 a = some o) : Sit K C σ0 H O ρ1 σ1 H2 O1 S :=
  ⟨s.en.kp fun a o q _ => ex a o q, s.dj, fun a m => (s.mu a m).imp fun xs q => ex a _ q, fun a o q n => ex a o (s.st.fr a o q n), s.st.nw⟩
theorem Sit.store0 {is : List Nat} (s : Sit K C σ0 H O ρ1 σ1 H1 O1 S) (z : Stored K C σ0 H1 ρ2 σ1 σ2 O2 O1 [] is) : Sit K C σ0 H O ρ2 σ2 H1 O2 S := by
  have sub : ∀ j a, a ∈ O2 j → ∃ j, a ∈ O1 j := fun j a m => (z.own j a m).elim (fun q => by simp at q) fun q => q
  refine ⟨z.en, fun a m j q => ?_, s.mu, s.st.fr, fun a m => ?_⟩
  · obtain ⟨k, q'⟩ := sub j a q
    exact s.dj a m k q'
  · rcases m with m | ⟨j, m⟩
    · exact s.st.nw a (.inl m)
    · obtain ⟨k, q'⟩ := sub j a m
      exact s.st.nw a (.inr ⟨k, q'⟩)
theorem Kp.trans {H H' H'' : Hp} {S : List Addr} (a : Kp H H' S) (b : Kp H' H'' S) : Kp H H'' S := fun x o e p => b x o (a x o e p) p
end
section
variable {X : Cx} {C : Ct} {σ0 : St} {W : WX} {e a b c tg iter : Expr} {f g h : Env → R Opd} {pos : Pos} {st : Stmt} {body : List Stmt}
theorem ps_for' {t : Tg} {fi : Env → R (List D × Grd)} {fb : Grd → Env → Out} (hp : PassesOwn (model X.prog X.w) X.A X.env X.xe) (hc : X.calm = true) (hi : PI X tg iter (TWx X C σ0 W fi)) (hg : ∀ gs σ1, PG X tg (tTg X.K (C.lock gs) σ1 t))
    (hb : ∀ gs σ1, PSs X body (TSx X (C.lock gs) σ1 W (fb gs))) (hs : ∀ x, foldedSetIterable iter X.env x = pure x) :
    PS X (.For tg iter body [] pos) (TSx X C σ0 W fun ρ => (fi ρ).then fun xg ρ1 => if gOk xg.2 ρ1 then forL (C.lock xg.2) t xg.2 (fb xg.2) xg.1 ρ1 else .stuck) := by
  have hg' : PG X tg (fun v σ H Q => ∃ gs σ1, tTg X.K (C.lock gs) σ1 t v σ H Q) := ⟨fun pins s σ H v u Q I r w => by
    obtain ⟨gs, σ1, w⟩ := w
    exact (hg gs σ1).run pins s σ H v u Q I r w⟩
  have hb' : PSs X body (fun D σ H => ∃ gs σ1, TSx X (C.lock gs) σ1 W (fb gs) D σ H) := ⟨fun pins s σ H D I w => by
    obtain ⟨gs, σ1, w⟩ := w
    exact (hb gs σ1).run pins s σ H D I w⟩
  refine ps_imp (ps_for hp hc hi hg' hb' hs) fun D σ H w => ?_
  obtain ⟨ρ, O, en, w⟩ := w
  refine seqO (rep := rW X.K C) (Sit.start en) w fun xg ρ1 w1 J H1 O1 S1 r1 s1 => ?_
  obtain ⟨xs, gs⟩ := xg
  obtain ⟨keep, wk, kp, _⟩ := r1
  dsimp only at w1 wk kp
  by_cases g0 : gOk gs ρ1 = true
  case neg => rw [if_neg g0] at w1; exact w1.elim
  rw [if_pos g0] at w1
  refine for_it (g := fun v σ H Q => ∃ gs σ1, tTg X.K (C.lock gs) σ1 t v σ H Q) (tb := fun D σ H => ∃ gs σ1, TSx X (C.lock gs) σ1 W (fb gs) D σ H) (D := D) wk (fun i σ' H' => ∃ ρ' O', Sit X.K (C.lock gs) σ H O ρ' σ' H' O' S1 ∧ Kp H1 H' S1 ∧ gOk gs ρ' = true ∧ Wo X.K C σ0 W H O (forL (C.lock gs) t gs (fb gs) (xs.drop i) ρ') D) ?_ ?_ ?_ ?_
  · exact ⟨ρ1, O1, s1.lock, fun _ _ q _ => q, g0, w1⟩
  · rintro i σ' H' _ ⟨ρ', O', s', k', g', _⟩
    exact kp H' ρ' σ' O' s'.en k' g'
  · rintro i x σ' H' H'' hi ⟨ρ', O', s', k', g', w'⟩ ⟨ex, yd⟩
    have hx : xs[i]? = some xs[i] := List.getElem?_eq_getElem hi
    rw [List.drop_eq_getElem_cons hi] at w'
    simp only [forL] at w'
    have s2 := s'.grow ex
    cases qa : asgT (C.lock gs) t xs[i] ρ' with
    | none => rw [qa] at w'; exact w'.elim
    | some ρ2 =>
      rw [qa] at w'
      dsimp only at w'
      refine ⟨gs, σ, ρ', O', xs[i], [], ρ2, s2.en, yd _ hx, by simp, qa, fun σ2 O2 st => ⟨gs, σ, ρ2, O2, st.en, ?_⟩⟩
      have s3 := s2.store0 st
      have fin : ∀ ρ3, Wo X.K C σ0 W H O (if gOk gs ρ3 = true then forL (C.lock gs) t gs (fb gs) (xs.drop (i + 1)) ρ3 else .stuck) D → ∀ σ3 H3 O3, Sit X.K (C.lock gs) σ H'' O2 ρ3 σ3 H3 O3 [] →
          ∃ ρ' O', Sit X.K (C.lock gs) σ H O ρ' σ3 H3 O' S1 ∧ Kp H1 H3 S1 ∧ gOk gs ρ' = true ∧ Wo X.K C σ0 W H O (forL (C.lock gs) t gs (fb gs) (xs.drop (i + 1)) ρ') D := fun ρ3 w3 σ3 H3 O3 s4 => by
        by_cases g3 : gOk gs ρ3 = true
        · rw [if_pos g3] at w3
          exact ⟨ρ3, O3, (s3.trans s4).sub fun x m => List.mem_append_left _ m, (k'.trans (kp_ex ex)).trans (s3.kp s4), g3, w3⟩
        · rw [if_neg g3] at w3
          exact w3.elim
      cases qb : fb gs ρ2 with
      | nx ρ3 => rw [qb] at w'; exact fin ρ3 w'
      | ct ρ3 => rw [qb] at w'; exact fin ρ3 w'
      | bk ρ3 => rw [qb] at w'; exact fun σ3 H3 O3 s4 => w' σ3 H3 O3 ((s3.trans s4).drop.unlock s1.en.pin)
      | rt d ρ3 => rw [qb] at w'; exact fun v σ3 H3 O3 S3 r s4 => w' v σ3 H3 O3 S3 r (((s3.trans s4).sub fun x m => List.mem_append_right _ m).unlock s1.en.pin)
      | exc x ρ3 => rw [qb] at w'; exact fun cls dd σ3 H3 O3 hx s4 => w' cls dd σ3 H3 O3 hx ((s3.trans s4).drop.unlock s1.en.pin)
      | stuck => rw [qb] at w'; exact w'
  · rintro σ' H' ⟨ρ', O', s', k', g', w'⟩
    rw [List.drop_length] at w'
    exact w' σ' H' O' (s'.drop.unlock s1.en.pin)
theorem ps_while' {fb : Env → Out} {n : Nat} (hp : PassesOwn (model X.prog X.w) X.A X.env X.xe) (hc : PT X c (TBx X C σ0 W f)) (hb : PSs X body (TSx X C σ0 W fb)) :
    PS X (.While c body [] pos) (TSx X C σ0 W fun ρ => whL f fb n ρ) := ps_imp (ps_while hp hc hb) fun D σ H w => by
  obtain ⟨ρ, O, en, w⟩ := w
  refine ⟨fun m σ' H' => ∃ ρ' O', Sit X.K C σ0 H O ρ' σ' H' O' [] ∧ Wo X.K C σ0 W H O (whL f fb m ρ') D, ⟨n, ρ, O, Sit.start en, w⟩, fun m σ' H' => ?_⟩
  rintro ⟨ρ', O', s', w'⟩
  cases m with
  | zero => exact w'.elim
  | succ m =>
    simp only [whL] at w'
    refine testO s' w' (fun x ρ2 w2 => ?_) fun t ρ2 w2 H2 O2 s2 => ?_
    · cases x with
      | sl i => exact w2.elim
      | own d => cases d <;> first | exact ⟨_, rfl⟩ | exact w2.elim
    · have s3 := s'.trans s2
      cases t with
      | true =>
        refine ⟨fun σ3 H3 => ∃ ρ' O', Sit X.K C σ0 H O ρ' σ3 H3 O' [] ∧ Wo X.K C σ0 W H O (whL f fb m ρ') D, fun σ3 H3 z => ⟨m, Nat.lt_succ_self m, z⟩, ρ2, O2, s2.en, ?_⟩
        dsimp only at w2
        cases qb : fb ρ2 with
        | nx ρ3 => rw [qb] at w2; exact fun σ3 H3 O3 s4 => ⟨ρ3, O3, s3.trans s4, w2⟩
        | ct ρ3 => rw [qb] at w2; exact fun σ3 H3 O3 s4 => ⟨ρ3, O3, s3.trans s4, w2⟩
        | bk ρ3 => rw [qb] at w2; exact fun σ3 H3 O3 s4 => w2 σ3 H3 O3 (s3.trans s4)
        | rt d ρ3 => rw [qb] at w2; exact fun v σ3 H3 O3 S3 r s4 => w2 v σ3 H3 O3 S3 r ((s3.trans s4).sub fun x m => by simpa using m)
        | exc x ρ3 => rw [qb] at w2; exact fun cls dd σ3 H3 O3 hx s4 => w2 cls dd σ3 H3 O3 hx (s3.trans s4).drop
        | stuck => rw [qb] at w2; exact w2
      | false => exact w2 σ' H2 O2 s3.drop
end
end Aw

set_option Elab.async false
set_option linter.all false
set_option maxRecDepth 100000
set_option maxHeartbeats 800000
/-! Ev13: comprehensions. -/
namespace Aw
open PySem L2 PySem.Spec
open PyProof.Rows hiding St

theorem wipe_get (σ : St) (j : Nat) : ∀ vs : List Nat, (wipe σ vs)[j]? = if j ∈ vs then (if j < σ.length then some none else none) else σ[j]?
  | [] => by simp [wipe]
  | v :: vs => by
    have ih := wipe_get σ j vs
    unfold wipe
    rw [List.getElem?_set, ih, wipe_length]
    by_cases c : v = j
    · subst c
      simp
    · have c' : j ≠ v := Ne.symm c
      simp [c, c']
theorem wipe_same {σ τ : St} {vs : List Nat} (hl : τ.length = σ.length) (h : ∀ j, j ∉ vs → τ[j]? = σ[j]?) : wipe τ vs = wipe σ vs := by
  apply List.ext_getElem?
  intro j
  rw [wipe_get, wipe_get, hl]
  by_cases c : j ∈ vs
  · rw [if_pos c, if_pos c]
  · rw [if_neg c, if_neg c, h j c]
theorem clear_len (ρ : Env) : ∀ is : List Nat, (clear ρ is).length = ρ.length
  | [] => rfl
  | i :: is => by simp [clear, clear_len ρ is]
theorem clear_gt (ρ : Env) (j : Nat) : ∀ is : List Nat, gt (clear ρ is) j = if j ∈ is then none else gt ρ j
  | [] => by simp [clear]
  | i :: is => by
    have ih := clear_gt ρ j is
    unfold clear
    by_cases h : i < (clear ρ is).length
    · rw [gt_set h, ih]
      by_cases c : j = i
      · simp [c]
      · simp [c]
    · rw [List.set_eq_of_length_le (by omega), ih]
      by_cases c : j = i
      · subst c
        have : gt ρ j = none := by
          rw [clear_len] at h
          unfold gt
          rw [List.getElem?_eq_none (by omega)]
        simp [this]
      · simp [c]
theorem back_len (old ρ : Env) : ∀ is : List Nat, (back old ρ is).length = ρ.length
  | [] => rfl
  | i :: is => by simp [back, back_len old ρ is]
theorem back_gt (old ρ : Env) (h : old.length = ρ.length) (j : Nat) : ∀ is : List Nat, gt (back old ρ is) j = if j ∈ is then gt old j else gt ρ j
  | [] => by simp [back]
  | i :: is => by
    have ih := back_gt old ρ h j is
    unfold back
    by_cases hi : i < (back old ρ is).length
    · rw [gt_set hi, ih]
      by_cases c : j = i
      · simp [c]
      · simp [c]
    · rw [List.set_eq_of_length_le (by omega), ih]
      by_cases c : j = i
      · subst c
        have n1 : gt ρ j = none := by
          rw [back_len] at hi
          unfold gt
          rw [List.getElem?_eq_none (by omega)]
        have n2 : gt old j = none := by
          rw [back_len] at hi
          unfold gt
          rw [List.getElem?_eq_none (by omega)]
        simp [n1, n2]
      · simp [c]
theorem all_eq {α : Type} {f g : α → Bool} : ∀ {l : List α}, (∀ x ∈ l, f x = g x) → l.all f = l.all g
  | [], _ => rfl
  | x :: l, h => by rw [List.all_cons, List.all_cons, h x List.mem_cons_self, all_eq fun y m => h y (List.mem_cons_of_mem _ m)]
theorem clearOk_at {C : Ct} {ρ : Env} : ∀ {own : List Nat}, clearOk C ρ own = true → ∀ i ∈ own, mayAsg C i = true ∧ i < ρ.length ∧ ∀ d, gt ρ i = some d → d.fzn = true
  | [], _, i, m => by simp at m
  | k :: own, h, i, m => by
    simp only [clearOk, Bool.and_eq_true, decide_eq_true_eq] at h
    obtain ⟨⟨⟨h1, h2⟩, h3⟩, h4⟩ := h
    rcases List.mem_cons.mp m with rfl | m
    · exact ⟨h1, h2, fun d q => by rw [q] at h3; exact h3⟩
    · exact clearOk_at h4 i m
section
variable {K : PySem.W.Frag} {C : Ct} {σ0 : St} {H H1 H2 : Hp} {O O1 O2 : Nat → List Addr} {ρ ρ1 ρ2 : Env} {σ σ1 σ2 : St} {S S1 S2 T U P : List Addr} {gs : Grd} {own : List Nat}
theorem En.wipe (en : En K C σ0 H ρ σ O) (h : ∀ i ∈ own, mayAsg C i = true) : En K C σ0 H (Aw.clear ρ own) (L2.wipe σ own) O where
  len := by rw [clear_len, wipe_length]; exact en.len
  rep := fun i d q => by
    rw [clear_gt] at q
    by_cases c : i ∈ own
    · rw [if_pos c] at q; cases q
    · rw [if_neg c] at q
      obtain ⟨v, e, r⟩ := en.rep i d q
      exact ⟨v, by rw [wipe_get, if_neg c]; exact e, r⟩
  dj := en.dj
  mu := en.mu
  pin := fun i q => by
    have c : i ∉ own := fun m => by rw [h i m] at q; cases q
    rw [wipe_get, if_neg c]
    exact en.pin i q
/-- back from the block: its own names as they were ahead of it -/
theorem En.back (en : En K C σ0 H1 ρ1 σ O1) (en2 : En K (C.lock gs) σ H2 (Aw.clear ρ2 own) (L2.wipe σ own) O2) (k : Kp H1 H2 []) (h : ∀ i ∈ own, ∀ d, gt ρ1 i = some d → d.fzn = true) : En K C σ0 H2 (Aw.back ρ1 ρ2 own) σ (fun j => if j ∈ own then [] else O2 j) where
  len := by
    rw [back_len]
    have e := en2.len
    rwa [clear_len, wipe_length] at e
  rep := fun i d q => by
    have hl : ρ1.length = ρ2.length := by
      have e := en2.len
      rw [clear_len, wipe_length] at e
      exact en.len.trans e.symm
    rw [back_gt _ _ hl] at q
    by_cases c : i ∈ own
    · rw [if_pos c] at q
      obtain ⟨v, e, r⟩ := en.rep i d q
      exact ⟨v, e, by rw [if_pos c]; exact Rp.kp d (r.fz_of (h i c d q)) k⟩
    · rw [if_neg c] at q
      obtain ⟨v, e, r⟩ := en2.rep i d (by rw [clear_gt, if_neg c]; exact q)
      rw [wipe_get, if_neg c] at e
      exact ⟨v, e, by rw [if_neg c]; exact r⟩
  dj := fun i j a m m' => by
    by_cases c : i ∈ own
    · rw [if_pos c] at m; simp at m
    · by_cases c' : j ∈ own
      · rw [if_pos c'] at m'; simp at m'
      · rw [if_neg c] at m
        rw [if_neg c'] at m'
        exact en2.dj i j a m m'
  mu := fun i a m => by
    by_cases c : i ∈ own
    · rw [if_pos c] at m; simp at m
    · rw [if_neg c] at m
      exact en2.mu i a m
  pin := en.pin
theorem gOk_clear (h : ∀ i ∈ own, mayAsg (C.lock gs) i = true) : gOk gs (clear ρ own) = gOk gs ρ := by
  unfold gOk
  have : ∀ g ∈ gs, (match gt (clear ρ own) g.1 with | some d => d.same g.2 | none => false) = (match gt ρ g.1 with | some d => d.same g.2 | none => false) := fun g m => by
    have c : g.1 ∉ own := fun q => by
      have q' := h _ q
      unfold mayAsg at q'
      have : (C.lock gs).lk.contains g.1 = true := by
        simp only [Ct.lock, List.contains_iff_mem, List.mem_append, List.mem_map]
        exact .inl ⟨g, m, rfl⟩
      rw [this] at q'
      cases q'
    rw [clear_gt, if_neg c]
  exact all_eq this
/-- the list at hand grows -/
theorem Sit.push {Dl : Addr} {vs : List V} {acc : List D} {d : D} {v : V} {Sa Sd : List Addr} (s : Sit K C σ0 H O ρ1 σ1 H1 O1 S) (hD : H1 Dl = some (.lst vs)) (inD : Dl ∈ S) (ra : Rps K H1 acc vs Sa) (rd : Rp K H1 d v Sd) (na : Dl ∉ Sa) (nd : Dl ∉ Sd) (sa : ∀ a ∈ Sa, a ∈ S) (sd : ∀ a ∈ Sd, a ∈ S) (ad : ∀ a ∈ Sa, a ∉ Sd) :
    Sit K C σ0 H O ρ1 σ1 (upd H1 Dl (.lst (vs ++ [v]))) O1 S ∧ upd H1 Dl (.lst (vs ++ [v])) Dl = some (.lst (vs ++ [v])) ∧ Rps K (upd H1 Dl (.lst (vs ++ [v]))) (acc ++ [d]) (vs ++ [v]) (Sa ++ Sd) ∧ (∀ T, Dl ∉ T → Kp H1 (upd H1 Dl (.lst (vs ++ [v]))) T) := by
  have st : ∀ a o, a ≠ Dl → H1 a = some o → upd H1 Dl (.lst (vs ++ [v])) a = some o := fun a o n h => by rw [upd_ne n]; exact h
  have kp : ∀ T, Dl ∉ T → Kp H1 (upd H1 Dl (.lst (vs ++ [v]))) T := fun T n a o h p => st a o (fun q => by
    subst q
    rcases p with p | p
    · rw [hD] at h
      cases h
      exact p
    · exact n p) h
  have nO : ∀ j a, a ∈ O1 j → a ≠ Dl := fun j a m q => by
    subst q
    exact s.dj a inD j m
  refine ⟨⟨s.en.kp fun a o h p => st a o (fun q => ?_) h, s.dj, fun a m => ?_, fun a o h n => st a o (fun q => ?_) (s.st.fr a o h n), s.st.nw⟩, upd_same, ?_, kp⟩
  · subst q
    rcases p with p | ⟨j, p⟩
    · rw [hD] at h
      cases h
      exact p
    · exact nO j a p rfl
  · by_cases q : a = Dl
    · subst q; exact ⟨.lst _, upd_same⟩
    · obtain ⟨xs, h⟩ := s.mu a m
      exact ⟨xs, st a _ q h⟩
  · subst q
    rcases s.st.nw a (.inl inD) with z | ⟨i, z⟩
    · rw [z] at h; cases h
    · exact n i z
  · have r1 := Rps.kp _ ra (kp Sa na)
    have r2 := Rp.kp _ rd (kp Sd nd)
    have r3 := Rps.app r1 (.cons r2 .nil (by simp)) (fun a m m' => ad a m (by simpa using m'))
    simpa using r3
theorem Sit.re {ρ' : Env} {σ' : St} (s : Sit K C σ0 H O ρ1 σ1 H1 O1 S) (en : En K C σ0 H1 ρ' σ' O1) : Sit K C σ0 H O ρ' σ' H1 O1 S := ⟨en, s.dj, s.mu, s.st⟩
end
abbrev W0 : WX := fun _ _ _ _ => False
section
variable {X : Cx} {C : Ct} {σ0 : St} {W : WX} {e a b c tg iter elt : Expr} {pos : Pos} {ifs : List Expr} {scope : Scope} {own : List (Str × Nat)} {t : Tg} {fi : Env → R (List D × Grd)} {fc fe : Grd → Env → R Opd}
/-- what a walk asks, the state at hand -/
theorem pi_inv {wi : TI} (h : PI X tg iter wi) : PI X tg iter (fun σ H R => wi σ H fun J H1 => (∃ pins s, Inv X pins σ H1 s) → R J H1) := ⟨fun pins s σ H R I w => by
  refine thn (h.run pins s σ H _ I w) fun v s1 q => thn q fun itv s2 z => ?_
  obtain ⟨it, fp, tn, J, H', e, I', T, q1, q2, q3⟩ := z
  exact ⟨it, fp, tn, J, H', e, I', T, q1, q2, q3 ⟨pins, s2, I'⟩⟩⟩
theorem noExc_ok {α : Type} {r : R α} {γ : Type} {k : α → Env → R γ} {K : PySem.W.Frag} {σ : St} {H : Hp} {O : Nat → List Addr} {δ : Type} {rep : Rl γ δ} {Q : δ → Hp → Prop} (w : Wg rep K C σ0 W σ H O ((noExc r).bind k) Q) : ∃ a ρ', r = .ok a ρ' ∧ Wg rep K C σ0 W σ H O (k a ρ') Q := by
  cases r with
  | ok a ρ' => exact ⟨a, ρ', rfl, w⟩
  | exc x ρ' => exact w.elim
  | stuck => exact w.elim
theorem bind_ok {α β : Type} {r : R α} {k : α → Env → R β} {b : β} {ρ' : Env} (h : r.bind k = .ok b ρ') : ∃ a ρ1, r = .ok a ρ1 ∧ k a ρ1 = .ok b ρ' := by
  cases r with
  | ok a ρ1 => exact ⟨a, ρ1, rfl, h⟩
  | exc x ρ1 => cases h
  | stuck => cases h
theorem pe_lc' (hc : X.calm = true) (hN : X.N.Nodup) (hi : PI X tg iter (TWx X C σ0 W fi)) (ok : BlkOk X.N X.env.scope scope own) (hown : own.map (·.2) = t.slots)
    (hg : ∀ gs σ1, ∀ (s : Shared) (H : Hp) (A : Addr) (cl : List (Str × Addr)) (fp : List Addr), PG (X.blk s H scope (compEnvC scope cl A X.env) fp) tg (tTg X.K (C.lock gs) σ1 t))
    (ht : ∀ gs σ1, ∀ (s : Shared) (H : Hp) (A : Addr) (cl : List (Str × Addr)) (fp : List Addr), PTs (X.blk s H scope (compEnvC scope cl A X.env) fp) ifs (tB' X.K (C.lock gs) σ1 W0 (fc gs)))
    (he : ∀ gs σ1, ∀ (s : Shared) (H : Hp) (A : Addr) (cl : List (Str × Addr)) (fp : List Addr), PE (X.blk s H scope (compEnvC scope cl A X.env) fp) elt (tE X.K (C.lock gs) σ1 W0 (fe gs)))
    (hs : ∀ x, foldedSetIterable iter X.env x = pure x) :
    PE X (.ListComp elt [⟨tg, iter, ifs, 0⟩] scope pos) (tLc (fun σ H R => TWx X C σ0 W fi σ H fun J H1 => (∃ pins s, Inv X pins σ H1 s) → R J H1)
      (fun v σ H Q => ∃ gs σ1, tTg X.K (C.lock gs) σ1 t v σ H Q) (fun σ H Q => ∃ gs σ1, tB' X.K (C.lock gs) σ1 W0 (fc gs) σ H Q) (fun σ H Q => ∃ gs σ1, tE X.K (C.lock gs) σ1 W0 (fe gs) σ H Q) t.slots) := by
  rw [← hown]
  refine pe_lc hc hN (pi_inv hi) ok (fun s H A cl fp => ⟨fun pins s' σ H v u Q I r w => ?_⟩) (fun s H A cl fp => ⟨fun pins s' σ H Q I w => ?_⟩) (fun s H A cl fp => ⟨fun pins s' σ H Q I w => ?_⟩) hs
  · obtain ⟨gs, σ1, w⟩ := w
    exact (hg gs σ1 s _ A cl fp).run pins s' σ H v u Q I r w
  · obtain ⟨gs, σ1, w⟩ := w
    exact (ht gs σ1 s _ A cl fp).run pins s' σ H Q I w
  · obtain ⟨gs, σ1, w⟩ := w
    exact (he gs σ1 s _ A cl fp).run pins s' σ H Q I w
/-- the reading of a comprehension, answered by the evaluator -/
theorem lc_ok {σ : St} {H : Hp} {Q : VK} (w : TEx X C σ0 W (fun ρ => (fi ρ).bind fun xg ρ1 => lcR C t.slots t xg.2 (fc xg.2) (fe xg.2) xg.1 ρ1) σ H Q) :
    tLc (fun σ H R => TWx X C σ0 W fi σ H fun J H1 => (∃ pins s, Inv X pins σ H1 s) → R J H1) (fun v σ H Q => ∃ gs σ1, tTg X.K (C.lock gs) σ1 t v σ H Q) (fun σ H Q => ∃ gs σ1, tB' X.K (C.lock gs) σ1 W0 (fc gs) σ H Q) (fun σ H Q => ∃ gs σ1, tE X.K (C.lock gs) σ1 W0 (fe gs) σ H Q) t.slots σ H Q := by
  obtain ⟨ρ, O, en, w⟩ := w
  refine seq (rep := rW X.K C) (Sit.start en) w fun xg ρ1 w1 J H1 O1 S1 r1 s1 => ?_
  obtain ⟨xs, gs⟩ := xg
  obtain ⟨keep, wk, kp, len⟩ := r1
  dsimp only at w1 wk kp len
  rintro ⟨pins0, sh0, I0⟩
  have hlen : xs.length ≤ sizeLine := len X pins0 sh0 rfl I0
  unfold lcR at w1
  by_cases g0 : (clearOk (C.lock gs) ρ1 t.slots && gOk gs ρ1) = true
  case neg => rw [if_neg g0] at w1; exact w1.elim
  rw [if_pos g0] at w1
  simp only [Bool.and_eq_true] at g0
  obtain ⟨g1, g2⟩ := g0
  have cl := clearOk_at g1
  have may : ∀ i ∈ t.slots, mayAsg (C.lock gs) i = true := fun i m => (cl i m).1
  intro Dl hDl
  have gcl : ∀ ρ, gOk gs (clear ρ t.slots) = gOk gs ρ := fun ρ => gOk_clear may
  refine lc_it (g := fun v σ H Q => ∃ gs σ1, tTg X.K (C.lock gs) σ1 t v σ H Q) (tt := fun σ H Q => ∃ gs σ1, tB' X.K (C.lock gs) σ1 W0 (fc gs) σ H Q) (te := fun σ H Q => ∃ gs σ1, tE X.K (C.lock gs) σ1 W0 (fe gs) σ H Q) (Qd := fun H => Q (.ref Dl) H) wk
    (fun i H' => ∃ ρ' O' acc vs Sa, H' Dl = some (.lst vs) ∧ Rps X.K H' acc vs Sa ∧ Dl ∉ Sa ∧ (∀ a ∈ Sa, a ∉ S1) ∧ Dl ∉ S1 ∧ acc.length ≤ i ∧ Sit X.K (C.lock gs) σ H O (clear ρ' t.slots) (wipe σ t.slots) H' O' (Dl :: Sa ++ S1) ∧ Kp H1 H' S1 ∧ gOk gs ρ' = true ∧
      Wg (rO X.K) X.K C σ0 W σ H O ((noExc (lcL (C.lock gs) t.slots t gs (fc gs) (fe gs) (xs.drop i) ρ')).bind fun ds ρ2 => .ok (.own (.lst false (acc ++ ds))) (back ρ1 ρ2 t.slots)) Q) ?_ ?_ ?_ ?_
  · have sw : Sit X.K (C.lock gs) σ H O (clear ρ1 t.slots) (wipe σ t.slots) H1 O1 S1 := s1.lock.re (s1.lock.en.wipe may)
    have nD : Dl ∉ S1 := fun m => by
      obtain ⟨xs, q⟩ := s1.mu Dl m
      rw [hDl] at q
      cases q
    exact ⟨ρ1, O1, [], [], [], upd_same, .nil, by simp, by simp, nD, Nat.le_refl _, sw.lst hDl, kp_new hDl, g2, w1⟩
  · rintro i H' _ ⟨ρ', O', acc, vs, Sa, hD, ra, na, d1, d2, hl, s', k', g', _⟩
    exact kp H' _ _ O' s'.en k' ((gcl ρ').trans g')
  · rintro i x H' H'' hi ⟨ρ', O', acc, vs, Sa, hD, ra, na, d1, d2, hl, s', k', g', w'⟩ ⟨ex, yd⟩
    have hx : xs[i]? = some xs[i] := List.getElem?_eq_getElem hi
    rw [List.drop_eq_getElem_cons hi] at w'
    simp only [lcL] at w'
    have s2 := s'.grow ex
    cases qa : asgT (C.lock gs) t xs[i] (clear ρ' t.slots) with
    | none => rw [qa] at w'; exact w'.elim
    | some ρ2 =>
      rw [qa] at w'
      dsimp only at w'
      refine ⟨gs, σ, clear ρ' t.slots, O', xs[i], [], ρ2, s2.en, yd _ hx, by simp, qa, fun σ2 O2 st => ?_⟩
      have s3 := s2.store0 st
      have wsame : wipe σ2 t.slots = wipe σ t.slots := (wipe_same st.len st.out).trans (wipe_same (wipe_length σ t.slots) fun j q => by rw [wipe_get, if_neg q])
      refine ⟨wsame, gs, σ, ρ2, O2, s3.en, ?_⟩
      obtain ⟨ds, ρf, ef, wf⟩ := noExc_ok w'
      obtain ⟨b, ρ3, eb, ek⟩ := bind_ok ef
      rw [eb]
      intro vb H3 O3 S3 rb sb
      have s4 := s3.trans sb
      have k4 : Kp H1 H3 S1 := ((k'.trans (kp_ex ex)).trans (Kp.sub (s3.kp sb) fun a m => by simp [m]))
      have re : ∀ {ρ4 : Env} {H4 : Hp} {O4 : Nat → List Addr} {P : List Addr}, Sit X.K (C.lock gs) σ H O ρ4 σ2 H4 O4 P → Sit X.K (C.lock gs) σ H O (clear ρ4 t.slots) (wipe σ t.slots) H4 O4 P := fun z => by
        have q := z.en.wipe may
        rw [wsame] at q
        exact z.re q
      have D3 : H3 Dl = some (.lst vs) := s3.kp sb _ _ (ex _ _ hD) (.inr (by simp))
      have ra3 : Rps X.K H3 acc vs Sa := Rps.kp acc (Rps.kp acc ra (kp_ex ex)) (Kp.sub (s3.kp sb) fun a m => by simp [m])
      split at ek
      · -- kept
        have rb' : Rp X.K H3 (.bl true) vb S3 := rb
        cases rb'
        refine ⟨true, rfl, ?_⟩
        dsimp only
        rw [if_pos rfl]
        refine ⟨gs, σ, ρ3, O3, sb.en, ?_⟩
        obtain ⟨o, ρ4, eo, ek2⟩ := bind_ok ek
        rw [eo]
        intro y H4 O4 S4 ry sc
        split at ek2
        · rename_i d
          split at ek2
          · rename_i g4
            obtain ⟨ds', ρ5, ed, ek3⟩ := bind_ok ek2
            cases ek3
            have s5 := s4.trans sc
            have D4 : H4 Dl = some (.lst vs) := s4.kp sc _ _ D3 (.inr (by simp))
            have ra4 : Rps X.K H4 acc vs Sa := Rps.kp acc ra3 (Kp.sub (s4.kp sc) fun a m => by simp [m])
            have ry' : Rp X.K H4 d y S4 := ry
            have ap := s4.apart sc
            have nd : Dl ∉ S4 := (ap Dl (by simp)).1
            have ad : ∀ a ∈ Sa, a ∉ S4 := fun a m => (ap a (by simp [m])).1
            have s1d : ∀ a ∈ S1, a ∉ S4 := fun a m => (ap a (by simp [m])).1
            obtain ⟨s6, D6, ra6, kp6⟩ := s5.push D4 (by simp) ra4 ry' na nd (fun a m => by simp [m]) (fun a m => by simp [m]) ad
            refine ⟨vs, D4, ?_, ρ4, O4, acc ++ [d], vs ++ [y], Sa ++ S4, D6, ra6, ?_, ?_, d2, ?_, ?_, ?_, g4, ?_⟩
            · rw [← ra4.length]
              omega
            · simp [na, nd]
            · intro a m
              rcases List.mem_append.mp m with m | m
              · exact d1 a m
              · exact fun q => s1d a q m
            · simp only [List.length_append, List.length_cons, List.length_nil]
              omega
            · exact (re s6).sub fun a m => by
                simp only [List.cons_append, List.mem_cons, List.mem_append] at m ⊢
                rcases m with m | (m | m) | m
                · simp [m]
                · simp [m]
                · simp [m]
                · simp [m]
            · exact (k4.trans (Kp.sub (s4.kp sc) fun a m => by simp [m])).trans (kp6 S1 d2)
            · rw [ed]
              have wf2 : Wg (rO X.K) X.K C σ0 W σ H O (.ok (.own (.lst false (acc ++ d :: ds'))) (back ρ1 ρf t.slots)) Q := wf
              rw [List.append_cons] at wf2
              exact wf2
          · cases ek2
        · cases ek2
      · -- left out
        have rb' : Rp X.K H3 (.bl false) vb S3 := rb
        cases rb'
        refine ⟨false, rfl, ?_⟩
        dsimp only
        rw [if_neg (by decide)]
        split at ek
        · rename_i g4
          refine ⟨ρ3, O3, acc, vs, Sa, D3, ra3, na, d1, d2, by omega, ?_, k4, g4, ?_⟩
          · exact (re s4).sub fun a m => by simpa using m
          · rw [ek]
            exact wf
        · cases ek
      · cases ek
  · rintro H' ⟨ρ', O', acc, vs, Sa, hD, ra, na, d1, d2, hl, s', k', g', w'⟩
    rw [List.drop_length] at w'
    have w2 : Wg (rO X.K) X.K C σ0 W σ H O (.ok (.own (.lst false (acc ++ []))) (back ρ1 ρ' t.slots)) Q := w'
    rw [List.append_nil] at w2
    have eb := En.back s1.en s'.en (k'.sub (by simp)) fun i m d q => (cl i m).2.2 d q
    refine w2 (.ref Dl) H' _ (Dl :: Sa) (.lst hD ra na) ⟨eb, fun a m j q => ?_, fun a m => s'.mu a (by simp only [List.cons_append, List.mem_cons, List.mem_append] at m ⊢; rcases m with m | m <;> simp [m]), s'.st.fr, fun a m => ?_⟩
    · by_cases c : j ∈ t.slots
      · rw [if_pos c] at q; simp at q
      · rw [if_neg c] at q
        exact s'.dj a (by simp only [List.cons_append, List.mem_cons, List.mem_append] at m ⊢; rcases m with m | m <;> simp [m]) j q
    · refine s'.st.nw a ?_
      rcases m with m | ⟨j, m⟩
      · exact .inl (by simp only [List.cons_append, List.mem_cons, List.mem_append] at m ⊢; rcases m with m | m <;> simp [m])
      · by_cases c : j ∈ t.slots
        · rw [if_pos c] at m; simp at m
        · rw [if_neg c] at m
          exact .inr ⟨j, m⟩
end
end Aw

set_option Elab.async false
set_option linter.all false
set_option maxRecDepth 100000
set_option maxHeartbeats 800000
/-! Ev14: the judgments, tree by tree. -/
namespace Aw
open PySem L2 PySem.Spec
open PyProof.Rows hiding St

def JE (X : Cx) (C : Ct) (σ0 : St) (W : WX) (md : Md) (x : Expr) (e : E) : Prop := PE X x (TEx X C σ0 W fun ρ => ev C e md ρ)
def JT (X : Cx) (C : Ct) (σ0 : St) (W : WX) (x : Expr) (e : E) : Prop := PT X x (TBx X C σ0 W fun ρ => ev C e .test ρ)
def JW (X : Cx) (C : Ct) (σ0 : St) (W : WX) (x : Expr) (e : E) : Prop := PW X x (TBx X C σ0 W fun ρ => ev C e .test ρ)
def JA (X : Cx) (C : Ct) (σ0 : St) (W : WX) (md : Md) (xs : List Expr) (es : Es) : Prop := PA X xs (TAx X C σ0 W fun ρ => evs C es md ρ)
def JO (X : Cx) (C : Ct) (σ0 : St) (W : WX) (x : Option Expr) (e : Eo) : Prop := PO X x (tG rI' X.K C σ0 W fun ρ => evo C e ρ)
def JC (X : Cx) (C : Ct) (σ0 : St) (W : WX) (xs : List Expr) (e : Eo) : Prop := PTs X xs (TBx X C σ0 W fun ρ => evc C e ρ)
def JI (X : Cx) (C : Ct) (σ0 : St) (W : WX) (tg x : Expr) (it : It) : Prop := PI X tg x (TWx X C σ0 W fun ρ => evi C it ρ)
def JG (X : Cx) (C : Ct) (σ0 : St) (x : Expr) (t : Tg) : Prop := PG X x (tTg X.K C σ0 t)
def JGs (X : Cx) (C : Ct) (σ0 : St) (xs : List Expr) (ts : List Tg) : Prop := PGs X xs (tTgs X.K C σ0 ts)
def JS (X : Cx) (C : Ct) (σ0 : St) (W : WX) (x : Stmt) (s : S) : Prop := PS X x (TSx X C σ0 W fun ρ => exS C s ρ)
def JB (X : Cx) (C : Ct) (σ0 : St) (W : WX) (xs : List Stmt) (ss : Ss) : Prop := PSs X xs (TSx X C σ0 W fun ρ => exSs C ss ρ)

section
variable {X : Cx} {C : Ct} {σ0 : St} {W : WX} {md : Md} {x y z tg : Expr} {xs : List Expr} {a b c e : E} {es : Es} {pos p p2 apos : Pos} {n : Str} {i j : Nat}

/-! ### names, constants -/
theorem je_varR (hN : X.N[i]? = some n := by rfl) (hv : Vis X.env.scope n := by first | exact Or.inl rfl | exact Or.inr (Or.inl rfl) | exact Or.inr (Or.inr rfl)) (hd : (n == ("__debug__" : Str)) = false := by decide) (hcd : (n == ("__classdict__" : Str)) = false := by decide) :
    JE X C σ0 W .read (.Name n pos) (.var i) := pe_varR (md := .read) (by intro h; cases h) (pe_var hN hv hd hcd)
theorem je_varK (hN : X.N[i]? = some n := by rfl) (hv : Vis X.env.scope n := by first | exact Or.inl rfl | exact Or.inr (Or.inl rfl) | exact Or.inr (Or.inr rfl)) (hd : (n == ("__debug__" : Str)) = false := by decide) (hcd : (n == ("__classdict__" : Str)) = false := by decide) :
    JE X C σ0 W .keep (.Name n pos) (.var i) := pe_varK (pe_var hN hv hd hcd)
theorem je_intR {v : Int} {k : Nat} : JE X C σ0 W .read (.Constant (.int v) k pos) (.cst (.int v)) := pe_cst pe_int fun _ => .int _
theorem je_intK {v : Int} {k : Nat} : JE X C σ0 W .keep (.Constant (.int v) k pos) (.cst (.int v)) := pe_cst pe_int fun _ => .int _
theorem je_strR {v : Str} {k : Nat} : JE X C σ0 W .read (.Constant (.str v) k pos) (.cst (.str v)) := pe_cst pe_str fun _ => .str _
theorem je_strK {v : Str} {k : Nat} : JE X C σ0 W .keep (.Constant (.str v) k pos) (.cst (.str v)) := pe_cst pe_str fun _ => .str _

/-! ### operators -/
theorem je_binR {o : Op2} (ha : JE X C σ0 W .read x a) (hb : JE X C σ0 W .read y b) : JE X C σ0 W .read (.BinOp x (opOf o) y pos) (.bin o a b) := pe_two (fun ha hb => pe_op (op_dBin o) ha hb) ha hb
theorem je_binK {o : Op2} (ha : JE X C σ0 W .read x a) (hb : JE X C σ0 W .read y b) : JE X C σ0 W .keep (.BinOp x (opOf o) y pos) (.bin o a b) := pe_two (fun ha hb => pe_op (op_dBin o) ha hb) ha hb
theorem je_negR (ha : JE X C σ0 W .read x a) : JE X C σ0 W .read (.UnaryOp .USub x pos) (.neg a) := pe_one' (fun ha => pe_un un_dNeg ha) ha
theorem je_negK (ha : JE X C σ0 W .read x a) : JE X C σ0 W .keep (.UnaryOp .USub x pos) (.neg a) := pe_one' (fun ha => pe_un un_dNeg ha) ha
theorem je_cmpR {o : Cp} (hu : X.A.units + 65 < cLine) (ha : JE X C σ0 W .read x a) (hb : JE X C σ0 W .read y b) (hm : behindInMarks (cpOf o) y = false := by rfl) : JE X C σ0 W .read (.Compare x [cpOf o] [y] pos) (.cmp o a b) := pe_two (fun ha hb => pe_cmpR (cp_all hu o) ha hb hm) ha hb
theorem je_cmpK {o : Cp} (hu : X.A.units + 65 < cLine) (ha : JE X C σ0 W .read x a) (hb : JE X C σ0 W .read y b) (hm : behindInMarks (cpOf o) y = false := by rfl) : JE X C σ0 W .keep (.Compare x [cpOf o] [y] pos) (.cmp o a b) := pe_two (fun ha hb => pe_cmpR (cp_all hu o) ha hb hm) ha hb
theorem jt_cmp {o : Cp} (hu : X.A.units + 65 < cLine) (ha : JE X C σ0 W .read x a) (hb : JE X C σ0 W .read y b) (hm : behindInMarks (cpOf o) y = false := by rfl) : JT X C σ0 W (.Compare x [cpOf o] [y] pos) (.cmp o a b) := pt_two (fun ha hb => pt_cmpR (cp_all hu o) ha hb hm) ha hb
theorem je_cmp2R {o o' : Cp} (hu : X.A.units + 65 < cLine) (ha : JE X C σ0 W .read x a) (hb : JE X C σ0 W .read y b) (hc : JE X C σ0 W .read z c) (hm : lastMarks [cpOf o, cpOf o'] [y, z] = false := by rfl) : JE X C σ0 W .read (.Compare x [cpOf o, cpOf o'] [y, z] pos) (.cmp2 o o' a b c) := pe_cmp2 (cp_all hu o) (cp_all hu o') ha hb hc hm
theorem je_cmp2K {o o' : Cp} (hu : X.A.units + 65 < cLine) (ha : JE X C σ0 W .read x a) (hb : JE X C σ0 W .read y b) (hc : JE X C σ0 W .read z c) (hm : lastMarks [cpOf o, cpOf o'] [y, z] = false := by rfl) : JE X C σ0 W .keep (.Compare x [cpOf o, cpOf o'] [y, z] pos) (.cmp2 o o' a b c) := pe_cmp2 (cp_all hu o) (cp_all hu o') ha hb hc hm
theorem jt_cmp2 {o o' : Cp} (hu : X.A.units + 65 < cLine) (ha : JE X C σ0 W .read x a) (hb : JE X C σ0 W .read y b) (hc : JE X C σ0 W .read z c) (hm : lastMarks [cpOf o, cpOf o'] [y, z] = false := by rfl) : JT X C σ0 W (.Compare x [cpOf o, cpOf o'] [y, z] pos) (.cmp2 o o' a b c) := pt_cmp2 (cp_all hu o) (cp_all hu o') ha hb hc hm

/-! ### and, or, not -/
theorem jw_and (ha : JT X C σ0 W x a) (hb : JW X C σ0 W (.BoolOp .And (y :: xs) pos) b) : JW X C σ0 W (.BoolOp .And (x :: y :: xs) pos) (.bop true a b) := pw_and' ha hb
theorem jw_or (ha : JT X C σ0 W x a) (hb : JW X C σ0 W (.BoolOp .Or (y :: xs) pos) b) : JW X C σ0 W (.BoolOp .Or (x :: y :: xs) pos) (.bop false a b) := pw_or' ha hb
theorem jw_and1 (ha : JT X C σ0 W x a) : JW X C σ0 W (.BoolOp .And [x] pos) a := pw_and1 ha
theorem jw_or1 (ha : JT X C σ0 W x a) : JW X C σ0 W (.BoolOp .Or [x] pos) a := pw_or1 ha
theorem JW.pt (ha : JW X C σ0 W x a) : JT X C σ0 W x a := L2.PW.pt ha
theorem je_andR (ha : JE X C σ0 W .keep x a) (hb : JE X C σ0 W .keep (.BoolOp .And (y :: xs) pos) b) : JE X C σ0 W .read (.BoolOp .And (x :: y :: xs) pos) (.bop true a b) := pe_and' ha hb
theorem je_andK (ha : JE X C σ0 W .keep x a) (hb : JE X C σ0 W .keep (.BoolOp .And (y :: xs) pos) b) : JE X C σ0 W .keep (.BoolOp .And (x :: y :: xs) pos) (.bop true a b) := pe_and' ha hb
theorem je_orR (ha : JE X C σ0 W .keep x a) (hb : JE X C σ0 W .keep (.BoolOp .Or (y :: xs) pos) b) : JE X C σ0 W .read (.BoolOp .Or (x :: y :: xs) pos) (.bop false a b) := pe_or' ha hb
theorem je_orK (ha : JE X C σ0 W .keep x a) (hb : JE X C σ0 W .keep (.BoolOp .Or (y :: xs) pos) b) : JE X C σ0 W .keep (.BoolOp .Or (x :: y :: xs) pos) (.bop false a b) := pe_or' ha hb
theorem je_and1 (ha : JE X C σ0 W .keep x a) : JE X C σ0 W .keep (.BoolOp .And [x] pos) a := pe_one ha
theorem je_or1 (ha : JE X C σ0 W .keep x a) : JE X C σ0 W .keep (.BoolOp .Or [x] pos) a := pe_one ha
theorem je_notR (ha : JE X C σ0 W .read x a) : JE X C σ0 W .read (.UnaryOp .Not x pos) (.not a) := pe_not' ha
theorem je_notK (ha : JE X C σ0 W .read x a) : JE X C σ0 W .keep (.UnaryOp .Not x pos) (.not a) := pe_not' ha
theorem jt_not (ha : JT X C σ0 W x a) : JT X C σ0 W (.UnaryOp .Not x pos) (.not a) := pt_not' ha
theorem je_iteR (hc : JT X C σ0 W x a) (ha : JE X C σ0 W .keep y b) (hb : JE X C σ0 W .keep z c) : JE X C σ0 W .read (.IfExp x y z pos) (.ite a b c) := pe_ite' hc ha hb
theorem je_iteK (hc : JT X C σ0 W x a) (ha : JE X C σ0 W .keep y b) (hb : JE X C σ0 W .keep z c) : JE X C σ0 W .keep (.IfExp x y z pos) (.ite a b c) := pe_ite' hc ha hb
/-- a value as a test -/
theorem jt_fin (h : JE X C σ0 W .read x e) (hf : ∀ ρ, ev C e .test ρ = fin .test (ev C e .read ρ) := by intros; rfl) (ht : ∀ whole, isTrue x X.env whole = (do let v ← whole; standAt x.pos; holding [v] (truthy v)) := by intros; rfl) : JT X C σ0 W x e := by
  have q : (fun ρ => ev C e .test ρ) = fun ρ => fin .test (ev C e .read ρ) := funext hf
  unfold JT
  rw [q]
  exact pt_fin h ht

/-! ### lists of expressions -/
theorem ja_nil : JA X C σ0 W md [] .nil := pa_nil'
theorem ja_cons (ha : JE X C σ0 W md x a) (hr : JA X C σ0 W md xs es) (hs : starEach (x :: xs) X.env = (false, eval x X.env) :: starEach xs X.env := by rfl) : JA X C σ0 W md (x :: xs) (.cons a es) := pa_cons' ha hr hs
theorem je_tupR {k : Nat} (h : JA X C σ0 W .keep xs es) : JE X C σ0 W .read (.Tuple xs k pos) (.tup es) := pe_tup' h
theorem je_tupK {k : Nat} (h : JA X C σ0 W .keep xs es) : JE X C σ0 W .keep (.Tuple xs k pos) (.tup es) := pe_tup' h
theorem je_lstR (h : JA X C σ0 W .keep xs es) : JE X C σ0 W .read (.List xs pos) (.lst es) := pe_lst' h
theorem je_lstK (h : JA X C σ0 W .keep xs es) : JE X C σ0 W .keep (.List xs pos) (.lst es) := pe_lst' h

/-! ### subscripts -/
theorem je_ixR (hu : X.A.units + 65 < cLine) (ha : JE X C σ0 W .read x a) (hb : JE X C σ0 W .read y b) (hs : PlainIx y := by intro _ _; rfl) : JE X C σ0 W .read (.Subscript x y pos) (.ix a b) := pe_two (fun ha hb => pe_ix (ix_d hu) ha hb hs) ha hb
theorem je_ixK (hu : X.A.units + 65 < cLine) (ha : JE X C σ0 W .read x a) (hb : JE X C σ0 W .read y b) (hs : PlainIx y := by intro _ _; rfl) : JE X C σ0 W .keep (.Subscript x y pos) (.ix a b) := pe_two (fun ha hb => pe_ix (ix_d hu) ha hb hs) ha hb
theorem jo_no : JO X C σ0 W none .no := po_none'
theorem jo_yes (h : JE X C σ0 W .read x a) : JO X C σ0 W (some x) (.yes a) := po_some' h
theorem je_slR {lo hi : Option Expr} {l h : Eo} (ha : JE X C σ0 W .read x a) (hl : JO X C σ0 W lo l) (hh : JO X C σ0 W hi h) : JE X C σ0 W .read (.Subscript x (.Slice lo hi none p2) pos) (.sl a l h) := pe_slice' ha hl hh
theorem je_slK {lo hi : Option Expr} {l h : Eo} (ha : JE X C σ0 W .read x a) (hl : JO X C σ0 W lo l) (hh : JO X C σ0 W hi h) : JE X C σ0 W .keep (.Subscript x (.Slice lo hi none p2) pos) (.sl a l h) := pe_slice' ha hl hh
end
end Aw

set_option Elab.async false
set_option linter.all false
set_option maxRecDepth 100000
set_option maxHeartbeats 800000
/-! Ev15: the judgments: calls, walks, statements. -/
namespace Aw
open PySem L2 PySem.Spec
open PyProof.Rows hiding St

/-- a def at hand, by its name -/
structure Cee (P : Program) (w : World) (K : PySem.W.Frag) (mg : Str → Option Value) (base : Heap) (cf : List D → FR) (x : Str) (np k : Nat) : Prop where
  fn : ∃ (fa : Addr) (fd : FuncData) (ps : List Str), FnOk P w K mg base (L2.CX P w) k fa fd ps (spF K np cf) ∧ mg x = some (.ref fa) ∧ PySem.W.keepIn K (.ref fa) = true ∧ Binds K fd ps []
  len : ∀ ds es d x, (cf ds = .ok d es ∨ cf ds = .exc x es) → ds.length = np

section
variable {X : Cx} {C : Ct} {σ0 : St} {W : WX} {md : Md} {x y z tg : Expr} {xs : List Expr} {a b c e : E} {es : Es} {pos p p2 apos : Pos} {n : Str} {i j np k : Nat}

theorem je_callR (h : Cee X.prog X.w X.K X.mg X.base (C.cf j) n np k) (tk : Takes X W) (hr : Room k X.A) (ha : JA X C σ0 W .read (x :: xs) (.cons a es)) (hg : Gl X n := by rfl) (hdb : (n == ("__debug__" : Str)) = false := by decide) (hs : starEach (x :: xs) X.env = (false, eval x X.env) :: starEach xs X.env := by rfl) (hplain : (backTo pos (starEach xs X.env)).any (·.1) = false := by rfl) :
    JE X C σ0 W .read (.Call (.Name n p) (x :: xs) [] pos) (.call j (.cons a es)) := by
  obtain ⟨fa, fd, ps, F, hm, hk, hb⟩ := h.fn
  exact pe_callF tk F h.len hr hg hm hk hb ha hdb hs hplain
theorem je_callK (h : Cee X.prog X.w X.K X.mg X.base (C.cf j) n np k) (tk : Takes X W) (hr : Room k X.A) (ha : JA X C σ0 W .read (x :: xs) (.cons a es)) (hg : Gl X n := by rfl) (hdb : (n == ("__debug__" : Str)) = false := by decide) (hs : starEach (x :: xs) X.env = (false, eval x X.env) :: starEach xs X.env := by rfl) (hplain : (backTo pos (starEach xs X.env)).any (·.1) = false := by rfl) :
    JE X C σ0 W .keep (.Call (.Name n p) (x :: xs) [] pos) (.call j (.cons a es)) := by
  obtain ⟨fa, fd, ps, F, hm, hk, hb⟩ := h.fn
  exact pe_callF tk F h.len hr hg hm hk hb ha hdb hs hplain
theorem je_call0R (h : Cee X.prog X.w X.K X.mg X.base (C.cf j) n 0 k) (hr : Room k X.A) (hg : Gl X n := by rfl) (hdb : (n == ("__debug__" : Str)) = false := by decide) : JE X C σ0 W .read (.Call (.Name n p) [] [] pos) (.call j .nil) := by
  obtain ⟨fa, fd, ps, F, hm, hk, hb⟩ := h.fn
  exact pe_callF0 F hr hg hm hk hb hdb
theorem je_call0K (h : Cee X.prog X.w X.K X.mg X.base (C.cf j) n 0 k) (hr : Room k X.A) (hg : Gl X n := by rfl) (hdb : (n == ("__debug__" : Str)) = false := by decide) : JE X C σ0 W .keep (.Call (.Name n p) [] [] pos) (.call j .nil) := by
  obtain ⟨fa, fd, ps, F, hm, hk, hb⟩ := h.fn
  exact pe_callF0 F hr hg hm hk hb hdb
theorem je_biR (o : Bi) (hu : X.A.units + 65 < cLine) (hm : X.mg (biName o) = none) (ha : JA X C σ0 W .read (x :: xs) (.cons a es)) (hc : X.calm = true := by rfl) (hg : Gl X (biName o) := by rfl) (hs : starEach (x :: xs) X.env = (false, eval x X.env) :: starEach xs X.env := by rfl) (hplain : (backTo pos (starEach xs X.env)).any (·.1) = false := by rfl) :
    JE X C σ0 W .read (.Call (.Name (biName o) p) (x :: xs) [] pos) (.bi o (.cons a es)) := pe_bi o hu hc hg hm ha hs hplain
theorem je_biK (o : Bi) (hu : X.A.units + 65 < cLine) (hm : X.mg (biName o) = none) (ha : JA X C σ0 W .read (x :: xs) (.cons a es)) (hc : X.calm = true := by rfl) (hg : Gl X (biName o) := by rfl) (hs : starEach (x :: xs) X.env = (false, eval x X.env) :: starEach xs X.env := by rfl) (hplain : (backTo pos (starEach xs X.env)).any (·.1) = false := by rfl) :
    JE X C σ0 W .keep (.Call (.Name (biName o) p) (x :: xs) [] pos) (.bi o (.cons a es)) := pe_bi o hu hc hg hm ha hs hplain
theorem je_isiR (t : Ty) (hm : X.mg "isinstance" = none) (hm2 : X.mg (tyName t) = none) (ha : JE X C σ0 W .read x a) (hg : Gl X "isinstance" := by rfl) (hg2 : Gl X (tyName t) := by rfl) (hs : starEach [x, .Name (tyName t) p2] X.env = (false, eval x X.env) :: starEach [.Name (tyName t) p2] X.env := by rfl) :
    JE X C σ0 W .read (.Call (.Name "isinstance" p) [x, .Name (tyName t) p2] [] pos) (.isi a [t]) := pe_isi t hg hm hg2 hm2 ha hs
theorem je_isiK (t : Ty) (hm : X.mg "isinstance" = none) (hm2 : X.mg (tyName t) = none) (ha : JE X C σ0 W .read x a) (hg : Gl X "isinstance" := by rfl) (hg2 : Gl X (tyName t) := by rfl) (hs : starEach [x, .Name (tyName t) p2] X.env = (false, eval x X.env) :: starEach [.Name (tyName t) p2] X.env := by rfl) :
    JE X C σ0 W .keep (.Call (.Name "isinstance" p) [x, .Name (tyName t) p2] [] pos) (.isi a [t]) := pe_isi t hg hm hg2 hm2 ha hs
theorem je_joinR (ha : JE X C σ0 W .read x a) (hb : JE X C σ0 W .read y b) (hs : starEach [y] X.env = [(false, eval y X.env)] := by rfl) (hbase : attributeBase x "join" X.env (eval x X.env) = eval x X.env := by rfl) (hline : (apos.endLine == pos.line) = true := by rfl) :
    JE X C σ0 W .read (.Call (.Attribute x "join" apos) [y] [] pos) (.mt .join a (.cons b .nil)) := pe_join' ha hb hs hbase hline
theorem je_joinK (ha : JE X C σ0 W .read x a) (hb : JE X C σ0 W .read y b) (hs : starEach [y] X.env = [(false, eval y X.env)] := by rfl) (hbase : attributeBase x "join" X.env (eval x X.env) = eval x X.env := by rfl) (hline : (apos.endLine == pos.line) = true := by rfl) :
    JE X C σ0 W .keep (.Call (.Attribute x "join" apos) [y] [] pos) (.mt .join a (.cons b .nil)) := pe_join' ha hb hs hbase hline
theorem je_append (ho : PE X x (tVar i)) (ha : JA X C σ0 W .keep (y :: xs) es)
    (hbase : attributeBase x "append" X.env (eval x X.env) = eval x X.env := by rfl)
    (hfew : ((backTo pos (starEach (y :: xs) X.env)).all (fun x => !x.1) && (backToKw pos (keywordEach [] X.env)).all (fun x => x.1.isSome) && decide ((y :: xs).length + ([] : List Keyword).length + (if ([] : List Keyword).isEmpty then 0 else 1) < 30)) = true := by rfl)
    (hline : (apos.endLine == pos.line) = true := by rfl) (hs : starEach (y :: xs) X.env = (false, eval y X.env) :: starEach xs X.env := by rfl) (hplain : (backTo pos (starEach xs X.env)).any (·.1) = false := by rfl) :
    JE X C σ0 W .keep (.Call (.Attribute x "append" apos) (y :: xs) [] pos) (.mm .append i es) := pe_append ho ha hbase hfew hline hs hplain
theorem je_extend (ho : PE X x (tVar i)) (ha : JA X C σ0 W .read (y :: xs) es)
    (hbase : attributeBase x "extend" X.env (eval x X.env) = eval x X.env := by rfl)
    (hfew : ((backTo pos (starEach (y :: xs) X.env)).all (fun x => !x.1) && (backToKw pos (keywordEach [] X.env)).all (fun x => x.1.isSome) && decide ((y :: xs).length + ([] : List Keyword).length + (if ([] : List Keyword).isEmpty then 0 else 1) < 30)) = true := by rfl)
    (hline : (apos.endLine == pos.line) = true := by rfl) (hs : starEach (y :: xs) X.env = (false, eval y X.env) :: starEach xs X.env := by rfl) (hplain : (backTo pos (starEach xs X.env)).any (·.1) = false := by rfl) :
    JE X C σ0 W .keep (.Call (.Attribute x "extend" apos) (y :: xs) [] pos) (.mm .extend i es) := pe_extend ho ha hbase hfew hline hs hplain

theorem lenk1 {ρ ρ1 : Env} {os : List Opd} (h : evs C (.cons a .nil) .keep ρ = .ok os ρ1) : os.length = 1 := by
  obtain ⟨o, ρ2, _, h2⟩ := bind_ok h
  cases h2
  rfl
theorem lenk2 {ρ ρ1 : Env} {os : List Opd} (h : evs C (.cons a (.cons b .nil)) .keep ρ = .ok os ρ1) : os.length = 2 := by
  obtain ⟨o, ρ2, _, h2⟩ := bind_ok h
  obtain ⟨o2, ρ3, _, h3⟩ := bind_ok h2
  cases h3
  rename_i h4
  obtain ⟨o4, ρ4, _, h5⟩ := bind_ok h4
  cases h5
  rfl
theorem je_pop0K (ho : PE X x (tVar i)) (hbase : attributeBase x "pop" X.env (eval x X.env) = eval x X.env := by rfl) (hline : (apos.endLine == pos.line) = true := by rfl) : JE X C σ0 W .keep (.Call (.Attribute x "pop" apos) [] [] pos) (.mm .pop i .nil) := pe_pop0 ho hbase hline
theorem je_popAtK (ho : PE X x (tVar i)) (ha : JA X C σ0 W .keep (y :: xs) (.cons a .nil)) (hbase : attributeBase x "pop" X.env (eval x X.env) = eval x X.env := by rfl)
    (hfew : ((backTo pos (starEach (y :: xs) X.env)).all (fun x => !x.1) && (backToKw pos (keywordEach [] X.env)).all (fun x => x.1.isSome) && decide ((y :: xs).length + ([] : List Keyword).length + (if ([] : List Keyword).isEmpty then 0 else 1) < 30)) = true := by rfl)
    (hline : (apos.endLine == pos.line) = true := by rfl) (hs : starEach (y :: xs) X.env = (false, eval y X.env) :: starEach xs X.env := by rfl) (hplain : (backTo pos (starEach xs X.env)).any (·.1) = false := by rfl) :
    JE X C σ0 W .keep (.Call (.Attribute x "pop" apos) (y :: xs) [] pos) (.mm .pop i (.cons a .nil)) := pe_popAt ho ha hbase hfew hline hs hplain fun _ _ _ h => lenk1 h
theorem je_pop0R (ho : PE X x (tVar i)) (hbase : attributeBase x "pop" X.env (eval x X.env) = eval x X.env := by rfl) (hline : (apos.endLine == pos.line) = true := by rfl) : JE X C σ0 W .read (.Call (.Attribute x "pop" apos) [] [] pos) (.mm .pop i .nil) := pe_pop0 ho hbase hline
theorem je_popAtR (ho : PE X x (tVar i)) (ha : JA X C σ0 W .keep (y :: xs) (.cons a .nil)) (hbase : attributeBase x "pop" X.env (eval x X.env) = eval x X.env := by rfl)
    (hfew : ((backTo pos (starEach (y :: xs) X.env)).all (fun x => !x.1) && (backToKw pos (keywordEach [] X.env)).all (fun x => x.1.isSome) && decide ((y :: xs).length + ([] : List Keyword).length + (if ([] : List Keyword).isEmpty then 0 else 1) < 30)) = true := by rfl)
    (hline : (apos.endLine == pos.line) = true := by rfl) (hs : starEach (y :: xs) X.env = (false, eval y X.env) :: starEach xs X.env := by rfl) (hplain : (backTo pos (starEach xs X.env)).any (·.1) = false := by rfl) :
    JE X C σ0 W .read (.Call (.Attribute x "pop" apos) (y :: xs) [] pos) (.mm .pop i (.cons a .nil)) := pe_popAt ho ha hbase hfew hline hs hplain fun _ _ _ h => lenk1 h
theorem je_insertK (ho : PE X x (tVar i)) (ha : JA X C σ0 W .keep (y :: xs) (.cons a (.cons b .nil))) (hbase : attributeBase x "insert" X.env (eval x X.env) = eval x X.env := by rfl)
    (hfew : ((backTo pos (starEach (y :: xs) X.env)).all (fun x => !x.1) && (backToKw pos (keywordEach [] X.env)).all (fun x => x.1.isSome) && decide ((y :: xs).length + ([] : List Keyword).length + (if ([] : List Keyword).isEmpty then 0 else 1) < 30)) = true := by rfl)
    (hline : (apos.endLine == pos.line) = true := by rfl) (hs : starEach (y :: xs) X.env = (false, eval y X.env) :: starEach xs X.env := by rfl) (hplain : (backTo pos (starEach xs X.env)).any (·.1) = false := by rfl) :
    JE X C σ0 W .keep (.Call (.Attribute x "insert" apos) (y :: xs) [] pos) (.mm .insert i (.cons a (.cons b .nil))) := pe_insert ho ha hbase hfew hline hs hplain fun _ _ _ h => lenk2 h

/-! ### targets -/
theorem jg_nm (hN : X.N.Nodup) (hi : X.N[i]? = some n := by rfl) (hx : Loc X.env.scope n := by first | exact Or.inl rfl | exact Or.inr rfl) (hf : X.fn n = true ∨ X.env.scope.names.lookup n = some .local := by first | exact .inl rfl | exact .inr rfl) : JG X C σ0 (.Name n pos) (.nm i) := pg_nm hN hi hx hf
theorem jgs_nil : JGs X C σ0 [] [] := pgs_nil'
theorem jgs_cons {t : Tg} {ts : List Tg} (h1 : JG X C σ0 x t) (h2 : JGs X C σ0 xs ts) (hs : (assignEach (x :: xs) X.env).map (·.2) = assign x X.env :: (assignEach xs X.env).map (·.2) := by rfl) : JGs X C σ0 (x :: xs) (t :: ts) := pgs_cons' h1 h2 hs
theorem jg_tup {ts : List Tg} {kk : Nat} (h : JGs X C σ0 xs ts) (hc : X.calm = true := by rfl) (hn : (assignEach xs X.env).length = ts.length := by rfl) (hst : (assignEach xs X.env).findIdx? (·.1) = none := by rfl) : JG X C σ0 (.Tuple xs kk pos) (.tup ts) := pg_tup' hc h hn hst

/-! ### walks -/
theorem ji_e (h : JE X C σ0 W .read x a) : JI X C σ0 W tg x (.e a) := pi_e h
theorem len1 {ρ ρ1 : Env} {os : List Opd} (h : evs C (.cons a .nil) .read ρ = .ok os ρ1) : os.length = 1 := by
  obtain ⟨o, ρ2, _, h2⟩ := bind_ok h
  cases h2
  rfl
theorem len2 {ρ ρ1 : Env} {os : List Opd} (h : evs C (.cons a (.cons b .nil)) .read ρ = .ok os ρ1) : os.length = 2 := by
  obtain ⟨o, ρ2, _, h2⟩ := bind_ok h
  obtain ⟨o2, ρ3, _, h3⟩ := bind_ok h2
  cases h3
  rename_i h4
  obtain ⟨o4, ρ4, _, h5⟩ := bind_ok h4
  cases h5
  rfl
theorem ji_rng1 (hm : X.mg "range" = none) (ha : JA X C σ0 W .read [x] (.cons a .nil)) (hg : Gl X "range" := by rfl) (hs : starEach [x] X.env = [(false, eval x X.env)] := by rfl) : JI X C σ0 W tg (.Call (.Name "range" p) [x] [] pos) (.rng (.cons a .nil)) := pi_rng1 hg hm ha hs fun ρ os ρ1 h => len1 h
theorem ji_rng2 (hm : X.mg "range" = none) (ha : JA X C σ0 W .read [x, y] (.cons a (.cons b .nil))) (hg : Gl X "range" := by rfl) (hs : starEach [x, y] X.env = [(false, eval x X.env), (false, eval y X.env)] := by rfl) (hs2 : starEach [y] X.env = [(false, eval y X.env)] := by rfl) :
    JI X C σ0 W tg (.Call (.Name "range" p) [x, y] [] pos) (.rng (.cons a (.cons b .nil))) := pi_rng2 hg hm ha hs hs2 fun ρ os ρ1 h => len2 h

/-! ### statements -/
variable {st : Stmt} {sts sts' : List Stmt} {s : S} {ss ss' : Ss} {t : Tg}
theorem jb_nil : JB X C σ0 W [] .nil := pss_nil'
theorem jb_cons (h1 : JS X C σ0 W st s) (h2 : JB X C σ0 W sts ss) : JB X C σ0 W (st :: sts) (.cons s ss) := pss_cons' h1 h2
theorem js_asg (he : JE X C σ0 W .keep x e) (hg : JG X C σ0 tg t) (hs : swapsWithSole [tg] x pos.line X.env = pure false := by rfl) (hw : swappedStores [tg] x X.env = pure none := by rfl) (h1 : (assignEach [tg] X.env).map (·.2) = [assign tg X.env] := by rfl) : JS X C σ0 W (.Assign [tg] x pos) (.asg t e) := ps_asg' he hg hs hw h1
theorem js_sub (hu : X.A.units + 65 < cLine) (ho : PE X x (tVar i)) (hi : JE X C σ0 W .read y a) (he : JE X C σ0 W .keep z e)
    (ha : ∀ v, assign (.Subscript x y p2) X.env v = (do
      let ov ← holding [v] (eval x X.env)
      let iv ← holding [v, ov] (eval y X.env)
      standAt p2
      holding [v, ov, iv] (setItem ov iv v)
      release [v, ov, iv] []) := by intro _; rfl) (hs : swapsWithSole [.Subscript x y p2] z pos.line X.env = pure false := by rfl) (hw : swappedStores [.Subscript x y p2] z X.env = pure none := by rfl) (h1 : (assignEach [.Subscript x y p2] X.env).map (·.2) = [assign (.Subscript x y p2) X.env] := by rfl) :
    JS X C σ0 W (.Assign [.Subscript x y p2] z pos) (.sub i a e) := ps_sub' hu ho hi he ha hs hw h1
theorem js_aug {o : Op2} (hN : X.N.Nodup) (he : JE X C σ0 W .read x e) (hi : X.N[i]? = some n := by rfl) (hx : Loc X.env.scope n := by first | exact Or.inl rfl | exact Or.inr rfl) (hf : X.fn n = true ∨ X.env.scope.names.lookup n = some .local := by first | exact .inl rfl | exact .inr rfl) : JS X C σ0 W (.AugAssign (.Name n p2) (opOf o) x pos) (.aug i o e) := ps_aug' hN hi hx hf he
theorem js_ex (he : JE X C σ0 W .keep x e) (hs : swapsWith x none pos.line X.env = pure false := by rfl) : JS X C σ0 W (.Expr x pos) (.ex e) := ps_ex' he hs
theorem js_if (hc : JT X C σ0 W x c) (ha : JB X C σ0 W sts ss) (hb : JB X C σ0 W sts' ss') : JS X C σ0 W (.If x sts sts' pos) (.iff c ss ss') := ps_if' hc ha hb
theorem js_for {it : It} (po : PassesOwn (model X.prog X.w) X.A X.env X.xe) (hi : JI X C σ0 W tg x it) (hg : ∀ gs σ1, JG X (C.lock gs) σ1 tg t) (hb : ∀ gs σ1, JB X (C.lock gs) σ1 W sts ss) (hc : X.calm = true := by rfl) (hs : ∀ v, foldedSetIterable x X.env v = pure v := by intro _; rfl) : JS X C σ0 W (.For tg x sts [] pos) (.forr t it ss) := ps_for' (fb := fun gs ρ' => exSs (C.lock gs) ss ρ') po hc hi hg hb hs
theorem js_while (po : PassesOwn (model X.prog X.w) X.A X.env X.xe) (hc : JT X C σ0 W x c) (hb : JB X C σ0 W sts ss) : JS X C σ0 W (.While x sts [] pos) (.whil c ss) := ps_while' po hc hb
theorem js_retV (h : PE X x (tVar i)) : JS X C σ0 W (.Return (some x) pos) (.ret (.var i)) := ps_retV h
theorem js_ret (he : JE X C σ0 W .keep x e) (hv : ∀ ρ, exS C (.ret e) ρ = (ev C e .keep ρ).then fun o ρ1 => match o with | .own d => .rt d ρ1 | _ => .stuck := by intros; rfl) : JS X C σ0 W (.Return (some x) pos) (.ret e) := by
  have q : (fun ρ => exS C (.ret e) ρ) = fun ρ => (ev C e .keep ρ).then fun o ρ1 => match o with | .own d => .rt d ρ1 | _ => .stuck := funext hv
  unfold JS
  rw [q]
  exact ps_ret' he
theorem js_retn : JS X C σ0 W (.Return none pos) .retn := ps_retn'
theorem js_brk : JS X C σ0 W (.Break pos) .brk := ps_brk'
theorem js_cnt : JS X C σ0 W (.Continue pos) .cnt := ps_cnt'
theorem js_pass : JS X C σ0 W (.Pass pos) .pass := ps_pass'

/-! ### comprehensions -/
theorem jc_no : JC X C σ0 W [] .no := ⟨fun pins s σ H Q I w => pts_nil.run pins s σ H Q I (by
  obtain ⟨ρ, O, en, w⟩ := w
  obtain ⟨b, eb, q⟩ := w (.bl true) H O [] (.bl _) (Sit.start en)
  cases eb
  exact q)⟩
theorem jc_yes (h : JT X C σ0 W x c) : JC X C σ0 W [x] (.yes c) := pts_one h
theorem je_lcK {it : It} {cc : Eo} {scope : Scope} {ifs : List Expr} (own : List (Str × Nat)) (hN : X.N.Nodup) (hi : JI X C σ0 W tg x it)
    (hg : ∀ gs σ1, ∀ (s : Shared) (H : Hp) (A : Addr) (cl : List (Str × Addr)) (fp : List Addr), JG (X.blk s H scope (compEnvC scope cl A X.env) fp) (C.lock gs) σ1 tg t)
    (ht : ∀ gs σ1, ∀ (s : Shared) (H : Hp) (A : Addr) (cl : List (Str × Addr)) (fp : List Addr), JC (X.blk s H scope (compEnvC scope cl A X.env) fp) (C.lock gs) σ1 W0 ifs cc)
    (he : ∀ gs σ1, ∀ (s : Shared) (H : Hp) (A : Addr) (cl : List (Str × Addr)) (fp : List Addr), JE (X.blk s H scope (compEnvC scope cl A X.env) fp) (C.lock gs) σ1 W0 .keep y e)
    (ok : blkC X.N X.env.scope scope own = true := by kernel_rfl) (hown : own.map (·.2) = t.slots := by rfl) (hc : X.calm = true := by rfl) (hs : ∀ v, foldedSetIterable x X.env v = pure v := by intro _; rfl) :
    JE X C σ0 W .keep (.ListComp y [⟨tg, x, ifs, 0⟩] scope pos) (.lc t.slots t it cc e) :=
  pe_imp (pe_lc' (fc := fun gs ρ' => evc (C.lock gs) cc ρ') (fe := fun gs ρ' => ev (C.lock gs) e .keep ρ') hc hN hi (blkOk_by ok) hown hg ht he hs) fun _ _ _ w => lc_ok w
theorem je_lcR {it : It} {cc : Eo} {scope : Scope} {ifs : List Expr} (own : List (Str × Nat)) (hN : X.N.Nodup) (hi : JI X C σ0 W tg x it)
    (hg : ∀ gs σ1, ∀ (s : Shared) (H : Hp) (A : Addr) (cl : List (Str × Addr)) (fp : List Addr), JG (X.blk s H scope (compEnvC scope cl A X.env) fp) (C.lock gs) σ1 tg t)
    (ht : ∀ gs σ1, ∀ (s : Shared) (H : Hp) (A : Addr) (cl : List (Str × Addr)) (fp : List Addr), JC (X.blk s H scope (compEnvC scope cl A X.env) fp) (C.lock gs) σ1 W0 ifs cc)
    (he : ∀ gs σ1, ∀ (s : Shared) (H : Hp) (A : Addr) (cl : List (Str × Addr)) (fp : List Addr), JE (X.blk s H scope (compEnvC scope cl A X.env) fp) (C.lock gs) σ1 W0 .keep y e)
    (ok : blkC X.N X.env.scope scope own = true := by kernel_rfl) (hown : own.map (·.2) = t.slots := by rfl) (hc : X.calm = true := by rfl) (hs : ∀ v, foldedSetIterable x X.env v = pure v := by intro _; rfl) :
    JE X C σ0 W .read (.ListComp y [⟨tg, x, ifs, 0⟩] scope pos) (.lc t.slots t it cc e) :=
  pe_imp (pe_lc' (fc := fun gs ρ' => evc (C.lock gs) cc ρ') (fe := fun gs ρ' => ev (C.lock gs) e .keep ρ') hc hN hi (blkOk_by ok) hown hg ht he hs) fun _ _ _ w => lc_ok w
end
end Aw

set_option Elab.async false
set_option linter.all false
set_option maxRecDepth 100000
set_option maxHeartbeats 1600000
/-! Ev16: name = [..]; enumerate of a list, of a tuple. -/
namespace PySem
open AutoSeq1 (wpAny_loadPart')
theorem aw_enum_tuple_new (t : Addr) (items : Array Value) (n : Nat) (dct : Option Addr) (sl : Array (Option Value)) :
    Meets (Builtin.«enumerate.__new__» ⟨[.type "enumerate", .ref t], []⟩) (fun _ R s =>
      s.heap.get? t = some { cls := .type "tuple", dict := dct, data := .seq items n, slots := sl } ∧
      R (.ok (.ret (.ref (s.heap.push { cls := .type "tuple_iterator", data := .fields #[.ref t, .int 0 0] }).objs.size)))
        { s with heap := (s.heap.push { cls := .type "tuple_iterator", data := .fields #[.ref t, .int 0 0] }).push { cls := .type "enumerate", data := .fields #[.none, .bool false, .ref s.heap.objs.size, rawInt 0, .none, .none] } }) :=
  .of_wp fun prog w A R s h => by
    obtain ⟨hp, g, d, tk, os⟩ := s
    obtain ⟨ht, h⟩ := h
    have hsub := sub_enumerate
    have hT : Heap.IsTuple (Shared.heap ⟨hp, g, d, tk, os⟩) t items := ⟨_, ht, rfl, n, rfl⟩
    wp_walk using wpAny_loadPart' ht
    refine wpAny_stack_any fun st => wpAny_pure ?_
    split
    · rename_i c _ _ _ _ _
      cases (c == Value.type "enumerate") <;>
        (wp_walk using wpAny_loadPart' ht, wpAny_pyIter_tuple hT
         exact ⟨_, rfl, h⟩)
    · wp_walk using wpAny_loadPart' ht, wpAny_pyIter_tuple hT
      exact ⟨_, rfl, h⟩
section
variable {prog : Program} {w : World} {A : Around} {E : Value → Shared → Prop} {s : Shared}
theorem aw_enum_tuple {t : Addr} {items : Array Value} {Q : Value → Shared → Prop} (hT : s.heap.IsTuple t items)
    (h : ∀ g, IsEnum g (s.heap.objs.size + 1) s.heap.objs.size 0 .none → g.IsTupleIter s.heap.objs.size t 0 →
      (∀ b o, s.heap.get? b = some o → g.get? b = some o) → Q (.ref (s.heap.objs.size + 1)) { s with heap := g }) :
    wpAny (model prog w) A (call (.type "enumerate") [.ref t]) Q E s := by
  obtain ⟨⟨c, dct, dt, sl⟩, ht, hc, n, hd⟩ := hT
  obtain rfl : c = .type "tuple" := hc
  obtain rfl : dt = .seq items n := hd
  refine callType_new F.called_enumerate (by decide) (F.typeCall_enumerate_1 _) (F.newCall_enumerate_1 _) (fun o => F.args_object_init_2 o _) F.entry_enumerate_new
    (aw_enum_tuple_new t items n dct sl) ⟨ht, ?_⟩
  generalize hI : s.heap.push { cls := .type "tuple_iterator", data := .fields #[.ref t, .int 0 0] } = hI'
  have z : hI'.objs.size = s.heap.objs.size + 1 := by rw [← hI]; exact Heap.size_push ..
  show _ ∧ _
  rw [z]
  have e0 := Heap.get?_push_size hI' (o := { cls := .type "enumerate", data := .fields #[.none, .bool false, .ref s.heap.objs.size, rawInt 0, .none, .none] }) rfl
  rw [z] at e0
  have e1 : hI'.get? s.heap.objs.size = some { cls := .type "tuple_iterator", data := .fields #[.ref t, .int 0 0] } := by
    rw [← hI]
    exact Heap.get?_push_size _ rfl
  refine ⟨⟨_, e0, rfl⟩, h _ e0 ⟨_, Heap.get?_push_of_some _ e1, rfl, rfl⟩ fun b o x => Heap.get?_push_of_some _ ?_⟩
  rw [← hI]
  exact Heap.get?_push_of_some _ x
theorem aw_draws (hh : A.handled = none) (it t : Addr) (hne : t ≠ it) (items : Array Value) :
    Draws prog w A it [it, t] items.size (fun i v => items[i]? = some v) (fun i h => h.IsTupleIter it t i ∧ h.IsTuple t items) where
  live := fun i h q => by
    obtain ⟨⟨o, e, _⟩, _⟩ := q
    exact ⟨o, e⟩
  frame := fun i h h' q k => ⟨q.1.at (k it (by simp)), q.2.at (k t (by simp))⟩
  item := fun i s Q E hi q hQ => RZ.nextOf_tuple_item q.1 q.2 (Array.getElem?_eq_getElem hi) fun h' a b => hQ _ h' s.toks (Array.getElem?_eq_getElem hi) ⟨a, q.2.extBut b.extBut hne⟩ b
  done := fun s Q E q hE => RZ.nextOf_tuple_end hh q.1 q.2 (by simp) fun h' e a b => hE h' e a b
end
end PySem
namespace Aw
open PySem L2 PySem.Spec
open PyProof.Rows hiding St

/-- the tuple at a, each item in a new pair -/
def IteT (K : PySem.W.Frag) (a : Addr) : L2.It where
  go := fun i H => ∃ (xs : List V) (x : V), SqT K H a xs ∧ xs[i]? = some x
  yld := fun i H v H' => ∃ T x, v = .ref T ∧ H T = none ∧ H' = upd H T (.tup [.int (i : Nat), x]) ∧ ∀ xs, SqT K H a xs → xs[i]? = some x
  stop := fun i H => ∃ xs : List V, SqT K H a xs ∧ xs.length ≤ i
theorem turn_enumT {P : Program} {w : World} {K : PySem.W.Frag} {elts : List Expr} {kk : Nat} {tpos : Pos} (a e it : Addr) :
    Turn P w K (.Tuple elts kk tpos) (IteT K a) [e, it] e (fun i h => (∃ old, IsEnum h e it ((i : Nat) : Int) old) ∧ h.IsTupleIter it a i ∧ e ≠ it) where
  mem := List.mem_cons_self
  obj := fun i h st b hb => by
    obtain ⟨⟨old, he⟩, ⟨o, ho, hc, hd⟩, _⟩ := st
    rcases List.mem_cons.mp hb with z | z
    · subst z
      exact ⟨_, he, fun v q => nomatch q⟩
    · rw [List.mem_singleton.mp z]
      exact ⟨o, ho, fun v q => by rw [hd] at q; cases q⟩
  keep := fun i h h' st k => by
    obtain ⟨⟨old, he⟩, hi, hne⟩ := st
    exact ⟨⟨old, k e (by simp) _ he⟩, hi.at (k it (by simp)), hne⟩
  item := by
    intro X hP hw hK hc i pins s σ H E I hf st hg
    subst hP hw hK
    obtain ⟨⟨old, he⟩, hit, hne⟩ := st
    obtain ⟨xs, x, hq, hx⟩ := hg
    obtain ⟨its, rv, p, _⟩ := I.tuple hq
    obtain ⟨u, hu, ru⟩ := rv.get hx
    have hel : e < s.heap.objs.size := Heap.lt_size he
    have hil : it < s.heap.objs.size := by obtain ⟨_, q, _⟩ := hit; exact Heap.lt_size q
    have nea : e ≠ a := fun q => by
      subst q
      obtain ⟨o, ho, hc, _⟩ := id p
      rw [he] at ho
      cases ho
      injection hc with z
      exact absurd z (by decide)
    have nit : a ≠ it := fun q => by
      subst q
      obtain ⟨o, ho, hc, _⟩ := id p
      obtain ⟨o2, ho2, hc2, _⟩ := id hit
      rw [ho] at ho2
      cases ho2
      rw [hc] at hc2
      injection hc2 with z
      exact absurd z (by decide)
    have hlt : i < its.toArray.size := by
      obtain ⟨z, _⟩ := List.getElem?_eq_some_iff.mp hu
      simpa using z
    refine wpAny_pyNext_enum_itemD (aw_draws (A := X.A.in1) (I.ok.hd hc) it a nit its.toArray) he ⟨hit, p⟩ hlt hne (by simp [hne, nea]) fun y h' tk hy ho hs' hT hsz hk => ?_
    have ey : y = u := by
      rw [show its.toArray[i]? = some u by simpa using hu] at hy
      exact (Option.some.inj hy).symm
    subst ey
    refine ⟨_, rfl, wpAny_letOwnedTupleGo_enum (s := { s with heap := h', toks := tk + 1 }) ho fun h'' he' sb => ?_⟩
    have hT2 := (sb.2 s.heap.objs.size (Nat.ne_of_gt hel)).trans hT
    have new : ObjOk X.prog X.w (upd H s.heap.objs.size (.tup [.int (i : Nat), x])) h'' s.heap.objs.size (.tup [.int (i : Nat), x]) :=
      ⟨by show 2 ≤ sizeLine; decide, [.int (i : Nat) tk, y], .cons ⟨_, rfl⟩ (.cons ru .nil), ⟨_, hT2, rfl, _, rfl⟩⟩
    have I1 : Inv X pins σ (upd H s.heap.objs.size (.tup [.int (i : Nat), x])) { s with heap := h'', toks := tk + 1 } :=
      I.turnedNew (ch := [e, it]) (fun b ob hb q => (sb.2 b (fun z => hb (by simp [z]))).trans (hk b ob (fun z => hb (by simp [z])) (fun z => hb (by simp [z])) q)) hf (Nat.le_refl _) new
    refine ⟨.ref s.heap.objs.size, _, I1, rfl, ⟨_, x, rfl, I.hok.fresh (Nat.le_refl _), rfl, fun ys hy => by rw [I.tuple_inj hy hq]; exact hx⟩, ⟨⟨y, ?_⟩, hs'.1.at fun o q => (sb.2 it (Ne.symm hne)).trans q, hne⟩, fun b hb => ?_⟩
    · rw [show ((i + 1 : Nat) : Int) = (i : Int) + 1 by omega]
      exact he'
    · have hb' : b < s.heap.objs.size := by
        rcases List.mem_cons.mp hb with z | z
        · rw [z]; exact hel
        · rw [List.mem_singleton.mp z]; exact hil
      rw [upd_ne (Nat.ne_of_lt hb')]
      exact (hf b hb).1
  done := by
    intro X hP hw hK hc i pins s σ H E I hf st hg
    subst hP hw hK
    obtain ⟨⟨old, he⟩, hit, hne⟩ := st
    obtain ⟨xs, hq, hx⟩ := hg
    obtain ⟨its, rv, p, _⟩ := I.tuple hq
    obtain ⟨f0, f1, f2, f3, f4, f5⟩ := hf it (by simp)
    have hl := rv.length
    have hT : s.TypeIs (.ref e) "enumerate" := ⟨_, he, rfl⟩
    unfold pyNext
    refine wpAny_bind (wpAny_attempt (wpAny_callSpecial?_slot (name := Str.ofString "__next__") hT F.slot_enumerate_next
      (wpAny_call_entry F.slot_enumerate_next hT F.entry_enumerate_next ?_ (F.args_enumerate_next_1 _))))
    show wpAny _ _ (field (.ref e) 2 >>= _) _ _ _
    refine wpAny_bind (wpAny_field he rfl (x := .ref it) rfl ?_)
    refine wpAny_bind (RZ.nextOf_tuple_end (I.ok.hd hc) hit p (by simp; omega) fun h' x eb hx' => ?_)
    obtain ⟨o, ho, hc⟩ := hx'
    refine wpAny_bind (wpAny_isInstance (T := "StopIteration") (b := true) ⟨o, ho, hc⟩ isSubtype_stop ?_)
    exact wpAny_pure ⟨rfl, I.turned (t' := s.toks) (fun b o hb q => eb b o hb q) f0 f1 f3 f4 f5⟩
  self := fun A i s Q E st h => by
    obtain ⟨⟨_, he⟩, _⟩ := st
    exact wpAny_pyIter_enum he h
def iEnumT (K : PySem.W.Frag) (ta : TA) : TI := fun σ H R => ta σ H fun vs H1 => ∃ a xs, vs = [.ref a] ∧ SqT K H1 a xs ∧ R (IteT K a) H1
theorem pi_enumT {X : Cx} {e : Expr} {ta : TA} {p pos tpos : Pos} {elts : List Expr} {kk : Nat} (hg : Gl X "enumerate") (hm : X.mg "enumerate" = none) (ha : PA X [e] ta) (hs : starEach [e] X.env = [(false, eval e X.env)]) :
    PI X (.Tuple elts kk tpos) (.Call (.Name "enumerate" p) [e] [] pos) (iEnumT X.K ta) := by
  refine ⟨fun pins s σ H R I h => ?_⟩
  refine Call_ (ld_blt I hg hm boot_enumerate (PyProof.Rows.callWith_type1 (thn (ha.run pos pins s σ H _ I h) fun us s1 z => ?_) hs rfl))
  obtain ⟨vs, H1, I1, r1, a, xs, ex, hq, q⟩ := z
  subst ex
  rcases r1 with _ | ⟨r, ⟨⟩⟩
  cases r
  obtain ⟨its, rv, p', _⟩ := I1.tuple hq
  refine aw_enum_tuple p' fun g he hit hk => wpAny_pyIter_enum he ?_
  have I2 : Inv X pins σ H1 { s1 with heap := g } := I1.kept (t' := s1.toks) hk
  refine ⟨s1.heap.objs.size + 1, [s1.heap.objs.size + 1, s1.heap.objs.size], _, _, H1, rfl, I2, turn_enumT a (s1.heap.objs.size + 1) s1.heap.objs.size, ⟨⟨.none, he⟩, hit, Nat.succ_ne_self _⟩, fun b hb => ?_, q⟩
  have hle : s1.heap.objs.size ≤ b := by
    rcases List.mem_cons.mp hb with z | z
    · rw [z]; exact Nat.le_succ _
    · rw [List.mem_singleton.mp z]; exact Nat.le_refl _
  exact I1.fpOk hle (I1.hok.fresh hle)
end Aw

set_option Elab.async false
set_option linter.all false
set_option maxRecDepth 100000
set_option maxHeartbeats 1600000
/-! Ev17: walks over enumerate; name = [..]. -/
namespace Aw
open PySem L2 PySem.Spec
open PyProof.Rows hiding St

theorem enumL_len : ∀ (xs : List D) (n : Nat), (enumL n xs).length = xs.length
  | [], _ => rfl
  | _ :: xs, n => congrArg (· + 1) (enumL_len xs (n + 1))
theorem enumL_get : ∀ (xs : List D) (n i : Nat) (d : D), (enumL n xs)[i]? = some d → ∃ x, xs[i]? = some x ∧ d = .tup [.int ((n + i : Nat) : Int), x]
  | [], _, i, d, h => by simp [enumL] at h
  | x :: xs, n, 0, d, h => ⟨x, rfl, by simpa [enumL] using h.symm⟩
  | x :: xs, n, i + 1, d, h => by
    obtain ⟨y, h1, h2⟩ := enumL_get xs (n + 1) i d (by simpa [enumL] using h)
    exact ⟨y, by simpa using h1, by rw [h2]; congr 3; omega⟩
/-- a new pair of what is frozen -/
theorem pair_new {K : PySem.W.Frag} {H : Hp} {T : Addr} {x y : V} {d e : D} (n : H T = none) (hx : Rp K H d x []) (hy : Rp K H e y []) : (∀ a o, H a = some o → (upd H T (.tup [x, y])) a = some o) ∧ Rp K (upd H T (.tup [x, y])) (.tup [d, e]) (.ref T) [] := by
  have k : ∀ a o, H a = some o → (upd H T (.tup [x, y])) a = some o := fun a o q => by rw [upd_ne (ne_of_none q n)]; exact q
  exact ⟨k, .tup upd_same (.cons (Rp.kp d hx (kp_ex k)) (.cons (Rp.kp e hy (kp_ex k)) .nil (by simp)) (by simp))⟩
def enumK (o : Opd) (ρ1 : Env) : R (List D × Grd) := match o.get ρ1 with
  | some d => match seqItems d with
    | some xs => .ok (enumL 0 xs, grdOf o d) ρ1
    | none => .stuck
  | none => .stuck
section
variable {X : Cx} {C : Ct} {σ0 : St} {W : WX} {a b : Expr} {f g : Env → R Opd} {pos p tpos : Pos} {elts : List Expr} {kk : Nat}
theorem pi_enum' (hg : Gl X "enumerate") (hm : X.mg "enumerate" = none) (hs : starEach [a] X.env = [(false, eval a X.env)]) (ha : PE X a (TEx X C σ0 W f)) :
    PI X (.Tuple elts kk tpos) (.Call (.Name "enumerate" p) [a] [] pos) (TWx X C σ0 W fun ρ => (f ρ).bind enumK) := by
  have pa : PA X [a] (TAx X C σ0 W fun ρ => (f ρ).bind fun o ρ1 => .ok [o] ρ1) := pa_cons' ha pa_nil' hs
  refine ⟨fun pins s σ H Q I w => ?_⟩
  obtain ⟨ρ, O, en, w⟩ := w
  have w : Wg (rW X.K C) X.K C σ0 W σ H O ((f ρ).bind enumK) Q := w
  cases q : f ρ with
  | stuck => rw [q] at w; exact w.elim
  | exc x ρ1 =>
    rw [q] at w
    exact (pi_enum (elts := elts) (kk := kk) (tpos := tpos) hg hm pa hs).run pins s σ H Q I ⟨ρ, O, en, by dsimp only; rw [q]; exact w⟩
  | ok o ρ1 =>
    rw [q] at w
    have w : Wg (rW X.K C) X.K C σ0 W σ H O (enumK o ρ1) Q := w
    unfold enumK at w
    split at w
    · rename_i d ed
      split at w
      · rename_i xs ex
        unfold seqItems at ex
        split at ex <;> try contradiction
        · split at ex <;> try contradiction
          rename_i ys hz
          cases ex
          refine (pi_enumT (elts := elts) (kk := kk) (tpos := tpos) hg hm pa hs).run pins s σ H Q I ⟨ρ, O, en, ?_⟩
          dsimp only
          rw [q]
          intro vs H' O' S' r s'
          obtain ⟨v, ev⟩ : ∃ v, vs = [v] := by
            cases vs with
            | nil => exact r.elim
            | cons v vs =>
              obtain ⟨_, _, _, _, r2, _⟩ := r
              cases vs with
              | nil => exact ⟨v, rfl⟩
              | cons _ _ => exact r2.elim
          subst ev
          obtain ⟨S1, S2, es, r1, r2, _⟩ := r
          have e2 : S2 = [] := r2
          subst e2
          rw [List.append_nil] at es
          subst es
          obtain ⟨T, z⟩ := s'.get r1 ed
          obtain ⟨t, ws, rfl, h1, h2⟩ := z.tupI
          refine ⟨t, ws, rfl, h1, w _ H' O' S' ⟨fun H' => ∃ T, Rp X.K H' (.tup xs) (.ref t) T, ⟨fun i H hi ⟨T, k⟩ => ?_, fun H ⟨T, k⟩ => ?_, fun i H x H' hi ⟨T, k⟩ y => ?_⟩, grd_keep s' r1 (fun x m => m) ed fun g m => m, fun Y pins s eK I => by
            obtain ⟨us, rv, _, hz⟩ := I.tuple (a := t) (xs := ws) (by rw [eK]; exact h1)
            show (enumL 0 xs).length ≤ _
            rw [enumL_len, h2.length]
            exact hz⟩ s'⟩
          · obtain ⟨p', us, e, k1, k2⟩ := k.tupI
            cases e
            have hl : i < us.length := by rw [← k2.length, ← enumL_len xs 0]; exact hi
            exact ⟨us, us[i], k1, List.getElem?_eq_getElem hl⟩
          · obtain ⟨p', us, e, k1, k2⟩ := k.tupI
            cases e
            exact ⟨us, k1, by rw [← k2.length]; show _ ≤ (enumL 0 xs).length; rw [enumL_len]; exact Nat.le_refl _⟩
          · obtain ⟨p', us, e, k1, k2⟩ := k.tupI
            cases e
            obtain ⟨N, u, rfl, nN, rfl, y⟩ := y
            have z0 := items_at k2 hz (y us k1)
            refine ⟨fun a o q => by rw [upd_ne (ne_of_none q nN)]; exact q, fun d qd => ?_⟩
            obtain ⟨d0, q1, rfl⟩ := enumL_get _ _ _ _ qd
            have z1 := (pair_new nN (.int (i : Nat)) (z0 d0 q1)).2
            simpa using z1
        · split at ex <;> try contradiction
          rename_i ys hz
          cases ex
          refine (pi_enum (elts := elts) (kk := kk) (tpos := tpos) hg hm pa hs).run pins s σ H Q I ⟨ρ, O, en, ?_⟩
          dsimp only
          rw [q]
          intro vs H' O' S' r s'
          obtain ⟨v, ev⟩ : ∃ v, vs = [v] := by
            cases vs with
            | nil => exact r.elim
            | cons v vs =>
              obtain ⟨_, _, _, _, r2, _⟩ := r
              cases vs with
              | nil => exact ⟨v, rfl⟩
              | cons _ _ => exact r2.elim
          subst ev
          obtain ⟨S1, S2, es, r1, r2, _⟩ := r
          have e2 : S2 = [] := r2
          subst e2
          rw [List.append_nil] at es
          subst es
          obtain ⟨T, z⟩ := s'.get r1 ed
          obtain ⟨t, ws, _, rfl, h1, h2, _⟩ := z.lstI
          refine ⟨t, ws, rfl, h1, w _ H' O' S' ⟨fun H' => ∃ T, Rp X.K H' (.lst _ xs) (.ref t) T, ⟨fun i H hi ⟨T, k⟩ => ?_, fun H ⟨T, k⟩ => ?_, fun i H x H' hi ⟨T, k⟩ y => ?_⟩, grd_keep s' r1 (fun x m => m) ed fun g m => m, fun Y pins s eK I => by
            obtain ⟨us, rv, _, hz⟩ := I.list (a := t) (xs := ws) (by rw [eK]; exact h1)
            show (enumL 0 xs).length ≤ _
            rw [enumL_len, h2.length]
            exact hz⟩ s'⟩
          · obtain ⟨p', us, _, e, k1, k2, _⟩ := k.lstI
            cases e
            have hl : i < us.length := by rw [← k2.length, ← enumL_len xs 0]; exact hi
            exact ⟨us, us[i], k1, List.getElem?_eq_getElem hl⟩
          · obtain ⟨p', us, _, e, k1, k2, _⟩ := k.lstI
            cases e
            exact ⟨us, k1, by rw [← k2.length]; show _ ≤ (enumL 0 xs).length; rw [enumL_len]; exact Nat.le_refl _⟩
          · obtain ⟨p', us, _, e, k1, k2, _⟩ := k.lstI
            cases e
            obtain ⟨N, u, rfl, nN, rfl, y⟩ := y
            have z0 := items_at k2 hz (y us k1)
            refine ⟨fun a o q => by rw [upd_ne (ne_of_none q nN)]; exact q, fun d qd => ?_⟩
            obtain ⟨d0, q1, rfl⟩ := enumL_get _ _ _ _ qd
            have z1 := (pair_new nN (.int (i : Nat)) (z0 d0 q1)).2
            simpa using z1
      · exact w.elim
    · exact w.elim
theorem ji_enum {e : E} (hm : X.mg "enumerate" = none) (ha : JE X C σ0 W .read a e) (hg : Gl X "enumerate" := by rfl) (hs : starEach [a] X.env = [(false, eval a X.env)] := by rfl) : JI X C σ0 W (.Tuple elts kk tpos) (.Call (.Name "enumerate" p) [a] [] pos) (.enum e) := pi_enum' hg hm hs ha

/-! ### name = [..] -/
theorem nm_g {K : PySem.W.Frag} {i : Nat} {v : V} {σ : St} {H : Hp} {Q : St → Hp → Prop} (w : tTg K C σ0 (.nm i) v σ H Q) : gName i v σ H Q := by
  obtain ⟨ρ, O, d, S, ρ', en, r, n, e, k⟩ := w
  have e : put C i d ρ = some ρ' := e
  unfold put at e
  split at e <;> try contradiction
  rename_i hz
  simp only [Bool.and_eq_true, decide_eq_true_eq] at hz
  cases e
  refine k _ _ ⟨en.store hz.2 hz.1 r n, fun j a m => ?_, fun j q => ?_, ?_⟩
  · by_cases c : j = i
    · rw [if_pos c] at m
      exact .inl m
    · rw [if_neg c] at m
      exact .inr ⟨j, m⟩
  · rw [List.getElem?_set_ne fun c => q (by subst c; simp [Tg.slots])]
  · simp
theorem js_lc {x y tg : Expr} {e : E} {it : It} {cc : Eo} {t : Tg} {scope : Scope} {ifs : List Expr} {n : Str} {i : Nat} {py spos : Pos} (own : List (Str × Nat)) (hN : X.N.Nodup) (hi : JI X C σ0 W tg x it)
    (hg : ∀ gs σ1, ∀ (s : Shared) (H : Hp) (A : Addr) (cl : List (Str × Addr)) (fp : List Addr), JG (X.blk s H scope (compEnvC scope cl A X.env) fp) (C.lock gs) σ1 tg t)
    (ht : ∀ gs σ1, ∀ (s : Shared) (H : Hp) (A : Addr) (cl : List (Str × Addr)) (fp : List Addr), JC (X.blk s H scope (compEnvC scope cl A X.env) fp) (C.lock gs) σ1 W0 ifs cc)
    (he : ∀ gs σ1, ∀ (s : Shared) (H : Hp) (A : Addr) (cl : List (Str × Addr)) (fp : List Addr), JE (X.blk s H scope (compEnvC scope cl A X.env) fp) (C.lock gs) σ1 W0 .keep y e)
    (hk : X.env.scope.kind = .function := by rfl) (hy : X.N[i]? = some n := by rfl) (hyl : X.env.scope.names.lookup n = some .local := by rfl) (hl : (py.line == pos.line) = true := by rfl) (hin : (scope.names.any fun (n', k) => n' == n && (k == .local || k == .cell)) = false := by rfl)
    (ok : blkC X.N X.env.scope scope own = true := by kernel_rfl) (hown : own.map (·.2) = t.slots := by rfl) (hc : X.calm = true := by rfl) (hs : ∀ v, foldedSetIterable x X.env v = pure v := by intro _; rfl) :
    JS X C σ0 W (.Assign [.Name n py] (.ListComp y [⟨tg, x, ifs, 0⟩] scope pos) spos) (.asg (.nm i) (.lc t.slots t it cc e)) := by
  have base := ps_setLc (g := fun v σ H Q => ∃ gs σ1, tTg X.K (C.lock gs) σ1 t v σ H Q) (tt := fun σ H Q => ∃ gs σ1, tB' X.K (C.lock gs) σ1 W0 (fun ρ' => evc (C.lock gs) cc ρ') σ H Q) (te := fun σ H Q => ∃ gs σ1, tE X.K (C.lock gs) σ1 W0 (fun ρ' => ev (C.lock gs) e .keep ρ') σ H Q) (spos := spos) hc hN hy hyl (sw_true (l := spos.line) hk hyl hl hin) (pi_inv hi) (blkOk_by ok)
    (fun s H A cl fp => ⟨fun pins s' σ H v u Q I r ⟨gs, σ1, w⟩ => (hg gs σ1 s _ A cl fp).run pins s' σ H v u Q I r w⟩) (fun s H A cl fp => ⟨fun pins s' σ H Q I ⟨gs, σ1, w⟩ => (ht gs σ1 s _ A cl fp).run pins s' σ H Q I w⟩) (fun s H A cl fp => ⟨fun pins s' σ H Q I ⟨gs, σ1, w⟩ => (he gs σ1 s _ A cl fp).run pins s' σ H Q I w⟩) hs
  rw [hown] at base
  refine ps_imp base fun D σ H w => ?_
  obtain ⟨ρ, O, en, w⟩ := w
  refine lc_ok (fc := fun gs ρ' => evc (C.lock gs) cc ρ') (fe := fun gs ρ' => ev (C.lock gs) e .keep ρ') (seqO (rep := rO X.K) (g := fun ρ => ev C (.lc t.slots t it cc e) .keep ρ) (Sit.start en) w fun o ρ1 w1 v H1 O1 S1 r1 s1 => nm_g (asgS_ok s1 r1 w1))
end
end Aw

set_option Elab.async false
set_option linter.all false
set_option maxRecDepth 100000
set_option maxHeartbeats 1600000
/-! Ev18: a def's promise, from its body's judgment. -/
namespace Aw
open PySem L2 PySem.Spec
open PyProof.Rows hiding St

theorem callF_len {T : List Fd} {wf k j : Nat} {F : Fd} (hT : T[j]? = some F) : ∀ ds es d x, (callF T wf k j ds = .ok d es ∨ callF T wf k j ds = .exc x es) → ds.length = F.np := fun ds es d x h => by
  cases k with
  | zero => rcases h with h | h <;> cases h
  | succ k =>
    simp only [callF, hT] at h
    split at h
    · assumption
    · rcases h with h | h <;> cases h
section
variable {K : PySem.W.Frag} {C : Ct} {σ0 : St} {H H1 : Hp}
/-- each thing with the lists that are its own -/
theorem Rps.part : ∀ {ds : List D} {vs : List V} {S : List Addr}, Rps K H ds vs S → ∃ O : Nat → List Addr, (∀ i d, ds[i]? = some d → ∃ v, vs[i]? = some v ∧ Rp K H d v (O i)) ∧ (∀ i j a, a ∈ O i → a ∈ O j → i = j) ∧ ∀ i a, a ∈ O i → a ∈ S
  | [], _, _, h => ⟨fun _ => [], fun i d e => by simp at e, fun i j a m => by simp at m, fun i a m => by simp at m⟩
  | d :: ds, vs, S, h => by
    cases h with
    | cons r rs n =>
      rename_i v S1 vs S2
      obtain ⟨O, h1, h2, h3⟩ := Rps.part rs
      refine ⟨fun i => match i with | 0 => S1 | i + 1 => O i, fun i x e => ?_, fun i j a m m' => ?_, fun i a m => ?_⟩
      · cases i with
        | zero => cases e; exact ⟨v, rfl, r⟩
        | succ i => exact h1 i x e
      · cases i with
        | zero => cases j with
          | zero => rfl
          | succ j => exact absurd (h3 j a m') (n a m)
        | succ i => cases j with
          | zero => exact absurd (h3 i a m) (n a m')
          | succ j => exact congrArg _ (h2 i j a m m')
      · cases i with
        | zero => exact List.mem_append_left _ m
        | succ i => exact List.mem_append_right _ (h3 i a m)
theorem gt_start {ds : List D} {n i : Nat} {d : D} (q : gt (ds.map some ++ List.replicate n none) i = some d) : ds[i]? = some d := by
  unfold gt at q
  split at q
  · rename_i o e
    subst q
    by_cases c : i < ds.length
    · rw [List.getElem?_append_left (by simpa using c), List.getElem?_map] at e
      cases z : ds[i]? with
      | none => rw [z] at e; cases e
      | some x =>
        rw [z] at e
        cases e
        rfl
    · rw [List.getElem?_append_right (by simpa using c), List.getElem?_replicate] at e
      split at e <;> cases e
  · cases q
/-- at the entry -/
theorem En.enter {np n : Nat} {N : List Str} {ds : List D} {vs : List V} {S : List Addr} {cf : Nat → List D → FR} {wf : Nat} (r : Rps K H ds vs S) (hn : n = N.length) (hp : vs.length = np) :
    ∃ O, En K ⟨np, ds, cf, wf, []⟩ (L2.start N vs) H (ds.map some ++ List.replicate (n - np) none) (L2.start N vs) O ∧ ∀ i a, a ∈ O i → a ∈ S := by
  obtain ⟨O, h1, h2, h3⟩ := Rps.part r
  refine ⟨O, ⟨?_, fun i d q => ?_, h2, fun i a m => Rps.mu _ r a (h3 i a m), fun i _ => rfl⟩, h3⟩
  · unfold L2.start
    simp only [List.length_append, List.length_map, List.length_replicate, r.length, hn, hp]
  · obtain ⟨v, e, g⟩ := h1 i d (gt_start q)
    have hl : i < vs.length := by
      obtain ⟨z, _⟩ := List.getElem?_eq_some_iff.mp e
      exact z
    exact ⟨v, by unfold L2.start; rw [List.getElem?_append_left (by simpa using hl), List.getElem?_map, e]; rfl, g⟩
/-- at the end: the arguments, as they are then -/
theorem fins_ok {O : Nat → List Addr} (dj : ∀ i j a, a ∈ O i → a ∈ O j → i = j) : ∀ (ds : List D) (vs : List V) (ρ : Env) (k : Nat) (es : List D), fins ds ρ = some es → ds.length = vs.length →
    (∀ (i : Nat) (d : D) (v : V), ds[i]? = some d → vs[i]? = some v → d.fzn = true → Rp K H d v []) →
    (∀ (i : Nat) (d : D) (v : V) (e : D), ds[i]? = some d → vs[i]? = some v → d.fzn = false → ρ[i]? = some (some e) → Rp K H e v (O (k + i))) →
    ∃ U, Rps K H es vs U ∧ ∀ a ∈ U, ∃ j, k ≤ j ∧ a ∈ O j
  | [], [], ρ, k, es, h, _, _, _ => by
    cases h
    exact ⟨[], .nil, by simp⟩
  | [], _ :: _, _, _, _, _, hl, _, _ => by cases hl
  | _ :: _, [], _, _, _, _, hl, _, _ => by cases hl
  | d :: ds, v :: vs, [], k, es, h, _, _, _ => by cases h
  | d :: ds, v :: vs, c :: ρ, k, es, h, hl, h1, h2 => by
    unfold fins at h
    split at h
    · rename_i x xs q1 q2
      cases h
      obtain ⟨U, r, m⟩ := fins_ok dj ds vs ρ (k + 1) xs q2 (by simpa using hl) (fun i d v a b c => h1 (i + 1) d v a b c) (fun i d v e a b c z => by
        have q := h2 (i + 1) d v e a b c z
        rwa [show k + (i + 1) = k + 1 + i by omega] at q)
      by_cases z : d.fzn = true
      · rw [if_pos z] at q1
        cases q1
        refine ⟨[] ++ U, .cons (h1 0 d v rfl rfl z) r (by simp), fun a q => ?_⟩
        obtain ⟨j, hj, hm⟩ := m a (by simpa using q)
        exact ⟨j, by omega, hm⟩
      · rw [if_neg z] at q1
        subst q1
        have g := h2 0 d v x rfl rfl (by simpa using z) rfl
        refine ⟨O k ++ U, .cons g r (fun a q q' => ?_), fun a q => ?_⟩
        · obtain ⟨j, hj, hm⟩ := m a q'
          have := dj k j a q hm
          omega
        · rcases List.mem_append.mp q with q | q
          · exact ⟨k, Nat.le_refl _, q⟩
          · obtain ⟨j, hj, hm⟩ := m a q
            exact ⟨j, by omega, hm⟩
    · cases h
/-- the way back out -/
theorem leave_ok {np : Nat} {N : List Str} {ds es : List D} {vs : List V} {S S' : List Addr} {cf : Nat → List D → FR} {wf : Nat} {O O' : Nat → List Addr} {ρ ρ0 : Env} {σ : St} (r : Rps K H ds vs S) (hp : vs.length = np) (hO : ∀ i a, a ∈ O i → a ∈ S)
    (en : En K ⟨np, ds, cf, wf, []⟩ (L2.start N vs) H ρ0 (L2.start N vs) O) (s : Sit K ⟨np, ds, cf, wf, []⟩ (L2.start N vs) H O ρ σ H1 O' S') (e : fins ds ρ = some es) : ∃ U, Rps K H1 es vs U ∧ (∀ a ∈ S', a ∉ U) ∧ Far H S H1 (S' ++ U) := by
  have hl : ds.length = vs.length := r.length
  have k0 : Kp H H1 [] := (Sit.start en).kp s
  obtain ⟨U, g, m⟩ := fins_ok s.en.dj ds vs ρ 0 es e hl (fun i d v a b c => by
    obtain ⟨v', T, b', q, _⟩ := r.get a
    cases b.symm.trans b'
    exact Rp.kp d (q.fz_of c) k0) (fun i d v x a b c z => by
    have hi : i < np := by
      obtain ⟨z, _⟩ := List.getElem?_eq_some_iff.mp b
      omega
    have pin := s.en.pin i (by
      unfold mayAsg
      rw [if_pos hi]
      dsimp only
      rw [a]
      simp [c])
    obtain ⟨v', e', q⟩ := s.en.rep i x (by unfold gt; rw [z])
    rw [e'] at pin
    have hv : (L2.start N vs)[i]? = some (some v) := by
      unfold L2.start
      have hiv : i < vs.length := by omega
      rw [List.getElem?_append_left (by simpa using hiv), List.getElem?_map, b]
      rfl
    rw [hv] at pin
    cases pin
    rw [Nat.zero_add]
    exact q)
  refine ⟨U, g, fun a q q' => ?_, fun a o h q => ?_, fun a q => ?_⟩
  · obtain ⟨j, _, hm⟩ := m a q'
    exact s.dj a q j hm
  · exact s.st.fr a o h fun i q' => q (hO i a q')
  · have : a ∈ S' ∨ ∃ i, a ∈ O' i := by
      rcases List.mem_append.mp q with q | q
      · exact .inl q
      · obtain ⟨j, _, hm⟩ := m a q
        exact .inr ⟨j, hm⟩
    rcases s.st.nw a this with z | ⟨i, z⟩
    · exact .inl z
    · exact .inr (hO i a z)
end
/-- the rule: a def by its body's judgment -/
theorem fn_ok {P : Program} {w : World} {K : PySem.W.Frag} {mg : Str → Option Value} {base : Heap} {x : Str} {st : Stmt} {f : Addr} {fd : FuncData} {N ps : List Str} {k j wf np n : Nat} {T : List Fd} {bd : Ss} (F : Fun K x x st f fd) (S : FnScope N ps (defScope st)) (hT : T[j]? = some ⟨np, n, bd⟩) (hn : n = N.length) (hp : np = ps.length)
    (hbody : ∀ (X : Cx) (args : List D) (σ0 : St) (W : WX) (cdv : Value) (A : Around) (outer : List PySem.Env) (s : Shared) (H : Hp) (E : XK), X = cxOf (L2.CX P w) P w K mg base N x (defScope st) f cdv A outer s H E → Room k X.A → Takes X W → PassesOwn (model X.prog X.w) X.A X.env X.xe →
      JB X ⟨np, args, callF T wf k, wf, []⟩ σ0 W (defBody st) bd) : FnOk P w K mg base (L2.CX P w) (k + 1) f fd ps (spF K np (callF T wf (k + 1) j)) := by
  refine F.okX S (fun vs H Q E h => h.1.trans hp) fun cdv A outer s H vs Q E hr h => ?_
  obtain ⟨hl, ds, U, r, h⟩ := h
  have tk : Takes (cxOf (L2.CX P w) P w K mg base N x (defScope st) f cdv A outer s H E) (fun cls d _ H => E cls d H) := takes_of rfl rfl rfl rfl
  have po : PassesOwn (model P w) (cxOf (L2.CX P w) P w K mg base N x (defScope st) f cdv A outer s H E).A (cxOf (L2.CX P w) P w K mg base N x (defScope st) f cdv A outer s H E).env (cxOf (L2.CX P w) P w K mg base N x (defScope st) f cdv A outer s H E).xe := passes_of rfl
  refine ⟨_, hbody _ ds (L2.start N vs) (fun cls d _ H => E cls d H) cdv A outer s H E rfl hr tk po, ?_⟩
  obtain ⟨O, en, hO⟩ := En.enter (cf := callF T wf k) (wf := wf) r hn hl
  refine ⟨_, O, en, ?_⟩
  have hl2 : ds.length = np := r.length.trans hl
  simp only [callF, hT, if_pos hl2] at h
  dsimp only
  cases q : exSs ⟨np, ds, callF T wf k, wf, []⟩ bd (ds.map some ++ List.replicate (n - np) none) with
  | nx ρ =>
    rw [q] at h
    simp only [finF] at h
    intro σ' H' O' s'
    cases e : fins ds ρ with
    | none => rw [e] at h; exact h.elim
    | some es =>
      rw [e] at h
      obtain ⟨Z, g1, g2, g3⟩ := leave_ok r hl hO en s' e
      exact h .non H' [] Z .non g1 g2 g3
  | rt d ρ =>
    rw [q] at h
    simp only [finF] at h
    intro v σ' H' O' S' rv s'
    cases e : fins ds ρ with
    | none => rw [e] at h; exact h.elim
    | some es =>
      rw [e] at h
      obtain ⟨Z, g1, g2, g3⟩ := leave_ok r hl hO en s' e
      exact h v H' S' Z rv g1 g2 g3
  | exc y ρ =>
    rw [q] at h
    simp only [finF] at h
    intro cls dd σ' H' O' hx s'
    cases e : fins ds ρ with
    | none => rw [e] at h; exact h.elim
    | some es =>
      rw [e] at h
      obtain ⟨Z, g1, _, g3⟩ := leave_ok r hl hO en s' e
      exact h cls dd H' Z hx g1 (by simpa using g3)
  | bk ρ => rw [q] at h; exact h.elim
  | ct ρ => rw [q] at h; exact h.elim
  | stuck => rw [q] at h; exact h.elim
end Aw

set_option Elab.async false
set_option linter.all false
set_option maxRecDepth 100000
set_option maxHeartbeats 1600000
/-! Ev19: constants; the law's own call. -/
namespace Aw
open PySem L2 PySem.Spec
open PyProof.Rows hiding St
section
variable {X : Cx} {C : Ct} {σ0 : St} {W : WX} {pos : Pos} {k : Nat}
theorem je_nonR : JE X C σ0 W .read (.Constant .none k pos) (.cst .non) := pe_cst pe_non fun _ => .non
theorem je_nonK : JE X C σ0 W .keep (.Constant .none k pos) (.cst .non) := pe_cst pe_non fun _ => .non
theorem je_blR {b : Bool} : JE X C σ0 W .read (.Constant (.bool b) k pos) (.cst (.bl b)) := pe_cst pe_bl fun _ => .bl b
theorem je_blK {b : Bool} : JE X C σ0 W .keep (.Constant (.bool b) k pos) (.cst (.bl b)) := pe_cst pe_bl fun _ => .bl b
theorem hu_ok {A : Around} {k : Nat} (hr : Room k A) : A.units + 65 < cLine := by
  have := hr.un
  omega
end
section
variable {P : Program} {w : World} {K : PySem.W.Frag} {mg : Str → Option Value} {base : Heap} {T : List Fd} {wf k j np n : Nat} {bd : Ss} {x : Str} {st : Stmt} {f : Addr} {fd : FuncData} {ps : List Str}
/-- without a turn left nothing is promised -/
theorem fn_zero : FnOk P w K mg base (L2.CX P w) k f fd ps (spF K np (callF T wf 0 j)) :=
  ⟨fun vs H Q E h => by obtain ⟨_, _, _, _, h⟩ := h; exact h.elim, fun A outer s H args us vs Q E _ _ _ _ h => by obtain ⟨_, _, _, _, h⟩ := h; exact h.elim⟩
/-- a def at hand -/
theorem cee_mk (F : Fun K x x st f fd) (b : Binds K fd ps []) (g : mg x = some (.ref f)) (ok : FnOk P w K mg base (L2.CX P w) k f fd ps (spF K np (callF T wf k j))) (hT : T[j]? = some ⟨np, n, bd⟩) : Cee P w K mg base (callF T wf k j) x np k :=
  ⟨⟨f, fd, ps, ok, g, F.kp, b⟩, callF_len hT⟩
theorem rps_ints {H : Hp} : ∀ ns : List Int, Rps K H (ns.map D.int) (ns.map V.int) []
  | [] => .nil
  | n :: ns => Rps.cons0 (.int n) (rps_ints ns)
/-- the law, called with the script -/
theorem law_says {cf : List D → FR} {H : Hp} {a : Addr} {ns : List Int} {es : List D} {E : XK} (hO : Only H) (hS : SqL K H a (ns.map V.int)) (h : cf [.lst true (ns.map D.int)] = .ok (.bl true) es) : spF K 1 cf [.ref a] H (fun v _ => v = .bl true) E := by
  have hF : SqF K H a (ns.map V.int) := by
    rcases hS with (z | z) | z
    · rcases hO a with q | ⟨o, xs, q⟩
      · rw [q] at z; cases z
      · rw [q] at z; cases z
    · exact .inl z
    · exact .inr z
  refine ⟨rfl, _, _, .cons (.frz hF (rps_ints ns)) .nil (by simp), ?_⟩
  rw [h]
  intro v H' T U r _ _ _
  cases r
  rfl
theorem cx_none {H : Hp} {s : Shared} {e : Value} {s' : Shared} : L2.CX P w [] H s (fun _ _ _ => False) e s' → False := fun h => by
  obtain ⟨_, _, _, _, _, _, _, _, _, _, _, _, z⟩ := h
  exact z
end
end Aw

set_option Elab.async false
set_option linter.all false
set_option maxRecDepth 100000
set_option maxHeartbeats 800000
/-! Ev20: data as the library reads it; < of data. -/
namespace Aw
open PySem L2 PySem.Spec
open PyProof.Rows hiding St
/-- < of data -/
def dLt (d e : D) : Option Bool := if d.plain && e.plain && PySem.W.alike (toPy d) (toPy e) && !d.isNon && decide (d.dep ≤ 64) then some (PySem.W.dataLt (toPy d) (toPy e)) else none
section
variable {X : Cx}
theorem op_ltD (hu : X.A.units + 65 < cLine) : OpR X (compareOp .Lt) (r2 X.K fun d e => (dLt d e).map D.bl) := by
  intro pins s σ H x y v u Q I rx ry h
  obtain ⟨d, e, S, T, z, rd, re, hk, q⟩ := h
  dsimp only at hk
  unfold dLt at hk
  split at hk
  · rename_i c
    simp only [Bool.and_eq_true, Bool.not_eq_true', decide_eq_true_eq] at c
    obtain ⟨⟨⟨⟨c1, c2⟩, c3⟩, c4⟩, c5⟩ := c
    cases hk
    obtain ⟨as, ra⟩ := reads_of I d rd c1 rx
    obtain ⟨bs, rb⟩ := reads_of I e re c2 ry
    have hn : toPy d ≠ .none := fun z => by
      cases d <;> first | (simp [D.isNon] at c4; done) | (simp [toPy] at z; done) | (simp [D.plain] at c1; done)
    have hd := dep_py d
    exact PySem.W.lt_data ra rb c3 hn (by omega) ⟨.bl _, H, I, rfl, q _ H [] (New.here (.bl _))⟩
  · cases hk
end
end Aw

set_option Elab.async false
set_option linter.all false
set_option maxRecDepth 100000
set_option maxHeartbeats 1600000
/-! Ev21: zip of two lists, of two tuples. -/
namespace Aw
open PySem L2 PySem.Spec
open PyProof.Rows hiding St
theorem zipL_len : ∀ (xs ys : List D), (zipL xs ys).length = min xs.length ys.length
  | [], _ => by simp [zipL]
  | _ :: _, [] => by simp [zipL]
  | x :: xs, y :: ys => by
    simp only [zipL, List.length_cons, zipL_len xs ys]
    omega
theorem zipL_get : ∀ (xs ys : List D) (i : Nat) (d : D), (zipL xs ys)[i]? = some d → ∃ x y, xs[i]? = some x ∧ ys[i]? = some y ∧ d = .tup [x, y]
  | [], _, i, d, h => by simp [zipL] at h
  | _ :: _, [], i, d, h => by simp [zipL] at h
  | x :: xs, y :: ys, 0, d, h => ⟨x, y, rfl, rfl, by simpa [zipL] using h.symm⟩
  | x :: xs, y :: ys, i + 1, d, h => by
    obtain ⟨a, b, h1, h2, h3⟩ := zipL_get xs ys i d (by simpa [zipL] using h)
    exact ⟨a, b, by simpa using h1, by simpa using h2, h3⟩
theorem walk_zipL {K : PySem.W.Frag} {a b : Addr} {xs ys : List D} {f g : Bool} (zx : fzns xs = true) (zy : fzns ys = true) :
    Walk (Itz K a b) (zipL xs ys).length (fun H => (∃ T, Rp K H (.lst f xs) (.ref a) T) ∧ ∃ T, Rp K H (.lst g ys) (.ref b) T) (YD K (zipL xs ys)) := by
  refine ⟨fun i H hi ⟨⟨T, k⟩, U, m⟩ => ?_, fun H ⟨⟨T, k⟩, U, m⟩ => ?_, fun i H x H' hi ⟨⟨T, k⟩, U, m⟩ y => ?_⟩
  · obtain ⟨p, us, _, e, k1, k2, _⟩ := k.lstI
    cases e
    obtain ⟨p, ws, _, e, m1, m2, _⟩ := m.lstI
    cases e
    rw [zipL_len] at hi
    have h1 : i < us.length := by rw [← k2.length]; omega
    have h2 : i < ws.length := by rw [← m2.length]; omega
    exact ⟨us, ws, us[i], ws[i], k1, m1, List.getElem?_eq_getElem h1, List.getElem?_eq_getElem h2⟩
  · obtain ⟨p, us, _, e, k1, k2, _⟩ := k.lstI
    cases e
    obtain ⟨p, ws, _, e, m1, m2, _⟩ := m.lstI
    cases e
    refine ⟨us, ws, k1, m1, ?_⟩
    rw [zipL_len, ← k2.length, ← m2.length]
    omega
  · obtain ⟨p, us, _, e, k1, k2, _⟩ := k.lstI
    cases e
    obtain ⟨p, ws, _, e, m1, m2, _⟩ := m.lstI
    cases e
    obtain ⟨N, u, w, rfl, nN, rfl, y1, y2⟩ := y
    refine ⟨fun a o q => by rw [upd_ne (ne_of_none q nN)]; exact q, fun d qd => ?_⟩
    obtain ⟨d1, d2, q1, q2, rfl⟩ := zipL_get _ _ _ _ qd
    exact (pair_new nN (items_at k2 zx (y1 us k1) d1 q1) (items_at m2 zy (y2 ws m1) d2 q2)).2
theorem walk_zipT {K : PySem.W.Frag} {a b : Addr} {xs ys : List D} (zx : fzns xs = true) (zy : fzns ys = true) :
    Walk (RZ.ItzT K a b) (zipL xs ys).length (fun H => (∃ T, Rp K H (.tup xs) (.ref a) T) ∧ ∃ T, Rp K H (.tup ys) (.ref b) T) (YD K (zipL xs ys)) := by
  refine ⟨fun i H hi ⟨⟨T, k⟩, U, m⟩ => ?_, fun H ⟨⟨T, k⟩, U, m⟩ => ?_, fun i H x H' hi ⟨⟨T, k⟩, U, m⟩ y => ?_⟩
  · obtain ⟨p, us, e, k1, k2⟩ := k.tupI
    cases e
    obtain ⟨p, ws, e, m1, m2⟩ := m.tupI
    cases e
    rw [zipL_len] at hi
    have h1 : i < us.length := by rw [← k2.length]; omega
    have h2 : i < ws.length := by rw [← m2.length]; omega
    exact ⟨us, ws, us[i], ws[i], k1, m1, List.getElem?_eq_getElem h1, List.getElem?_eq_getElem h2⟩
  · obtain ⟨p, us, e, k1, k2⟩ := k.tupI
    cases e
    obtain ⟨p, ws, e, m1, m2⟩ := m.tupI
    cases e
    refine ⟨us, ws, k1, m1, ?_⟩
    rw [zipL_len, ← k2.length, ← m2.length]
    omega
  · obtain ⟨p, us, e, k1, k2⟩ := k.tupI
    cases e
    obtain ⟨p, ws, e, m1, m2⟩ := m.tupI
    cases e
    obtain ⟨N, u, w, rfl, nN, rfl, y1, y2⟩ := y
    refine ⟨fun a o q => by rw [upd_ne (ne_of_none q nN)]; exact q, fun d qd => ?_⟩
    obtain ⟨d1, d2, q1, q2, rfl⟩ := zipL_get _ _ _ _ qd
    exact (pair_new nN (items_at k2 zx (y1 us k1) d1 q1) (items_at m2 zy (y2 ws m1) d2 q2)).2

def zipK (o p : Opd) (ρ2 : Env) : R (List D × Grd) := match o.get ρ2, p.get ρ2 with
  | some d, some e => match zipD d e with
    | some xs => .ok (xs, grdOf o d ++ grdOf p e) ρ2
    | none => .stuck
  | _, _ => .stuck
section
variable {X : Cx} {C : Ct} {σ0 : St} {W : WX} {a b : Expr} {f g : Env → R Opd} {pos p tpos : Pos} {elts : List Expr} {kk : Nat}
theorem pi_zip' (hg : Gl X "zip") (hm : X.mg "zip" = none) (hs : starEach [a, b] X.env = (false, eval a X.env) :: starEach [b] X.env) (hs2 : starEach [b] X.env = (false, eval b X.env) :: starEach [] X.env) (hpl : (backTo pos (starEach [b] X.env)).any (·.1) = false) (ha : PE X a (TEx X C σ0 W f)) (hb : PE X b (TEx X C σ0 W g)) :
    PI X (.Tuple elts kk tpos) (.Call (.Name "zip" p) [a, b] [] pos) (TWx X C σ0 W fun ρ => (f ρ).bind fun o ρ1 => (g ρ1).bind fun q ρ2 => zipK o q ρ2) := by
  have pa : PA X [a, b] (TAx X C σ0 W fun ρ => (f ρ).bind fun o ρ1 => ((g ρ1).bind fun q ρ2 => .ok [q] ρ2).bind fun os ρ3 => .ok (o :: os) ρ3) := pa_cons' ha (pa_cons' hb pa_nil' hs2) hs
  refine ⟨fun pins s σ H Q I w => ?_⟩
  refine (RZ.pi_zipA (elts := elts) (kk := kk) (tpos := tpos) hg hm pa hs hpl).run pins s σ H Q I ?_
  obtain ⟨ρ, O, en, w⟩ := w
  refine ⟨ρ, O, en, ?_⟩
  dsimp only at w ⊢
  cases qf : f ρ with
  | stuck => rw [qf] at w; exact w.elim
  | exc x ρ1 => rw [qf] at w; exact w
  | ok o ρ1 =>
    rw [qf] at w
    have w : Wg (rW X.K C) X.K C σ0 W σ H O ((g ρ1).bind fun q ρ2 => zipK o q ρ2) Q := w
    show Wg (rOs X.K) X.K C σ0 W σ H O (((g ρ1).bind fun q ρ2 => .ok [q] ρ2).bind fun os ρ3 => .ok (o :: os) ρ3) _
    cases qg : g ρ1 with
    | stuck => rw [qg] at w; exact w.elim
    | exc x ρ2 => rw [qg] at w; exact w
    | ok q ρ2 =>
      rw [qg] at w
      have w : Wg (rW X.K C) X.K C σ0 W σ H O (zipK o q ρ2) Q := w
      unfold zipK at w
      intro vs H' O' S' r s'
      obtain ⟨v, u, rfl⟩ : ∃ v u, vs = [v, u] := by
        cases vs with
        | nil => exact r.elim
        | cons v vs =>
          obtain ⟨_, _, _, _, r2, _⟩ := r
          cases vs with
          | nil => exact r2.elim
          | cons u vs =>
            obtain ⟨_, _, _, _, r3, _⟩ := r2
            cases vs with
            | nil => exact ⟨v, u, rfl⟩
            | cons _ _ => exact r3.elim
      obtain ⟨S1, S2, es, r1, ⟨S3, S4, es2, r2, r3, _⟩, _⟩ := r
      have sub1 : ∀ x ∈ S1, x ∈ S' := fun x m => by rw [es]; exact List.mem_append_left _ m
      have sub2 : ∀ x ∈ S3, x ∈ S' := fun x m => by rw [es, es2]; exact List.mem_append_right _ (List.mem_append_left _ m)
      split at w
      · rename_i d e ed ee
        split at w
        · rename_i xs ex
          obtain ⟨T, z1⟩ := s'.get r1 ed
          obtain ⟨U, z2⟩ := s'.get r2 ee
          have k1 := grd_keep (gs := grdOf o d ++ grdOf q e) s' r1 sub1 ed fun g m => List.mem_append_left _ m
          have k2 := grd_keep (gs := grdOf o d ++ grdOf q e) s' r2 sub2 ee fun g m => List.mem_append_right _ m
          unfold zipD at ex
          split at ex <;> try contradiction
          · split at ex <;> try contradiction
            rename_i x1 x2 hz
            cases ex
            simp only [Bool.and_eq_true] at hz
            obtain ⟨t1, w1, rfl, h1, h2⟩ := z1.tupI
            obtain ⟨t2, w2, rfl, h3, h4⟩ := z2.tupI
            refine ⟨t1, t2, w1, w2, rfl, .inr ⟨h1, h3, w _ H' O' S' ⟨_, walk_zipT hz.1 hz.2, fun H2 ρ' σ' O2 e1 e2 e3 => ⟨k1 H2 ρ' σ' O2 e1 e2 e3, k2 H2 ρ' σ' O2 e1 e2 e3⟩, fun Y pins s eK I => ?_⟩ s'⟩⟩
            obtain ⟨us, rv, _, hz⟩ := I.tuple (a := t1) (xs := w1) (by rw [eK]; exact h1)
            show (zipL _ _).length ≤ _
            rw [zipL_len, h2.length]
            omega
          · split at ex <;> try contradiction
            rename_i x1 x2 hz
            cases ex
            simp only [Bool.and_eq_true] at hz
            obtain ⟨t1, w1, _, rfl, h1, h2, _⟩ := z1.lstI
            obtain ⟨t2, w2, _, rfl, h3, h4, _⟩ := z2.lstI
            refine ⟨t1, t2, w1, w2, rfl, .inl ⟨h1, h3, w _ H' O' S' ⟨_, walk_zipL hz.1 hz.2, fun H2 ρ' σ' O2 e1 e2 e3 => ⟨k1 H2 ρ' σ' O2 e1 e2 e3, k2 H2 ρ' σ' O2 e1 e2 e3⟩, fun Y pins s eK I => ?_⟩ s'⟩⟩
            obtain ⟨us, rv, _, hz⟩ := I.list (a := t1) (xs := w1) (by rw [eK]; exact h1)
            show (zipL _ _).length ≤ _
            rw [zipL_len, h2.length]
            omega
        · exact w.elim
      · exact w.elim
theorem ji_zip {e1 e2 : E} (hm : X.mg "zip" = none) (ha : JE X C σ0 W .read a e1) (hb : JE X C σ0 W .read b e2) (hg : Gl X "zip" := by rfl) (hs : starEach [a, b] X.env = (false, eval a X.env) :: starEach [b] X.env := by rfl) (hs2 : starEach [b] X.env = (false, eval b X.env) :: starEach [] X.env := by rfl) (hpl : (backTo pos (starEach [b] X.env)).any (·.1) = false := by rfl) :
    JI X C σ0 W (.Tuple elts kk tpos) (.Call (.Name "zip" p) [a, b] [] pos) (.zip e1 e2) := pi_zip' hg hm hs hs2 hpl ha hb
end
end Aw

set_option Elab.async false
set_option linter.all false
set_option maxRecDepth 100000
set_option maxHeartbeats 1600000
/-! Ev22: dicts: displays without entries, .get. -/
namespace Aw
open PySem L2 PySem.Spec
open PyProof.Rows hiding St
section
variable {X : Cx} {C : Ct} {σ0 : St} {W : WX} {x y : Expr} {a e : E} {pos apos : Pos} {md : Md}
theorem dnew_ok {K : PySem.W.Frag} {C : Ct} {σ0 : St} {W : WX} {t : Bool} {σ : St} {H : Hp} {Q : VK} {u : MuO} (hd : DicO t [] [] u.ho) (w : tE K C σ0 W (fun ρ => .ok (.own (.dct false t [] [])) ρ) σ H Q) (p : Addr) (n : H p = none) : Q (.ref p) (upd H p u.ho) := by
  obtain ⟨ρ, O, en, w⟩ := w
  have w : ∀ b H' O' S', rO K H' σ (.own (.dct false t [] [])) b S' → Sit K C σ0 H O ρ σ H' O' S' → Q b H' := w
  have r : Rp K (upd H p u.ho) (.dct false t [] []) (.ref p) [p] := .dct upd_same hd .nil
  exact w _ _ _ _ r ((Sit.start en).ho (m' := u) n)
theorem je_dnewKR : JE X C σ0 W .read (.Dict [] [] pos) (.dnew false) := pe_imp pe_dnewK fun σ H Q w p n => dnew_ok (u := .dK []) (.k []) w p n
theorem je_dnewKK : JE X C σ0 W .keep (.Dict [] [] pos) (.dnew false) := pe_imp pe_dnewK fun σ H Q w p n => dnew_ok (u := .dK []) (.k []) w p n
theorem je_dnewTR : JE X C σ0 W .read (.Dict [] [] pos) (.dnew true) := pe_imp pe_dnewT fun σ H Q w p n => dnew_ok (u := .dT []) (.t []) w p n
theorem je_dnewTK : JE X C σ0 W .keep (.Dict [] [] pos) (.dnew true) := pe_imp pe_dnewT fun σ H Q w p n => dnew_ok (u := .dT []) (.t []) w p n
theorem je_frzK (h : JE X C σ0 W .keep x e) : JE X C σ0 W .keep x (.frz e) := pe_frz h
theorem je_frzR (h : JE X C σ0 W .keep x e) : JE X C σ0 W .read x (.frz e) := pe_frz h
end
end Aw

set_option Elab.async false
set_option linter.all false
set_option maxRecDepth 100000
set_option maxHeartbeats 4000000
/-! Lp: plain lemmas over the evaluator; the drawing of the laws. -/
namespace Aw
open PySem

theorem forL_nx {C : Ct} {t : Tg} {gs : Grd} {body : Env → Out} (J : List D → Env → Prop) (step : ∀ x xs ρ, J (x :: xs) ρ → ∃ ρ1 ρ2, asgT C t x ρ = some ρ1 ∧ body ρ1 = .nx ρ2 ∧ gOk gs ρ2 = true ∧ J xs ρ2) :
    ∀ xs ρ, J xs ρ → ∃ ρ', forL C t gs body xs ρ = .nx ρ' ∧ J [] ρ'
  | [], ρ, h => ⟨ρ, rfl, h⟩
  | x :: xs, ρ, h => by
    obtain ⟨ρ1, ρ2, h1, h2, h3, h4⟩ := step x xs ρ h
    obtain ⟨ρ', e, h5⟩ := forL_nx J step xs ρ2 h4
    exact ⟨ρ', by simp only [forL, h1, h2, h3, if_pos, e], h5⟩
inductive All2 {α β : Type} (R : α → β → Prop) : List α → List β → Prop
  | nil : All2 R [] []
  | cons {a : α} {b : β} {as : List α} {bs : List β} (h : R a b) (t : All2 R as bs) : All2 R (a :: as) (b :: bs)
theorem All2.len {α β : Type} {R : α → β → Prop} : ∀ {as : List α} {bs : List β}, All2 R as bs → as.length = bs.length
  | _, _, .nil => rfl
  | _, _, .cons _ t => congrArg (· + 1) t.len
theorem All2.right {α β : Type} {P : β → Prop} : ∀ {as : List α} {bs : List β}, All2 (fun _ b => P b) as bs → ∀ b ∈ bs, P b
  | _, _, .nil => by simp
  | _, _, .cons h t => fun b m => (List.mem_cons.mp m).elim (fun q => q ▸ h) (fun q => All2.right t b q)
theorem lcL_all {C : Ct} {own : List Nat} {t : Tg} {gs : Grd} {c e : Env → R Opd} (J : List D → Env → Prop) (Pd : D → D → Prop)
    (step : ∀ x xs ρ, J (x :: xs) ρ → ∃ ρ1 ρ2 d ρ3, asgT C t x (clear ρ own) = some ρ1 ∧ c ρ1 = .ok (.own (.bl true)) ρ2 ∧ e ρ2 = .ok (.own d) ρ3 ∧ gOk gs ρ3 = true ∧ Pd x d ∧ J xs ρ3) :
    ∀ xs ρ, J xs ρ → ∃ ds ρ', lcL C own t gs c e xs ρ = .ok ds ρ' ∧ J [] ρ' ∧ All2 Pd xs ds
  | [], ρ, h => ⟨[], ρ, rfl, h, .nil⟩
  | x :: xs, ρ, h => by
    obtain ⟨ρ1, ρ2, d, ρ3, h1, h2, h3, h4, h5, h6⟩ := step x xs ρ h
    obtain ⟨ds, ρ', q1, q2, q3⟩ := lcL_all J Pd step xs ρ3 h6
    exact ⟨d :: ds, ρ', by simp only [lcL, h1, h2, R.bind, h3, h4, if_pos, q1], q2, .cons h5 q3⟩
mutual
theorem deq_refl : ∀ d : D, d.plain = true → deq d d = true
  | .non, _ => rfl
  | .bl b, _ => by simp [deq]
  | .int i, _ => by simp [deq]
  | .str z, _ => by simp [deq]
  | .tup xs, h => by simp only [D.plain] at h; simp only [deq]; exact deqs_refl xs h
  | .lst _ xs, h => by simp only [D.plain] at h; simp only [deq]; exact deqs_refl xs h
theorem deqs_refl : ∀ ds : List D, plains ds = true → deqs ds ds = true
  | [], _ => rfl
  | d :: ds, h => by
    simp only [plains, Bool.and_eq_true] at h
    simp only [deqs, Bool.and_eq_true]
    exact ⟨deq_refl d h.1, deqs_refl ds h.2⟩
end

/-! ### the drawing -/
def b_draw (A B : Int) : Ss := (.cons (.iff (.cmp .lt (.ix (.var 0) (.cst (.int 0))) (.var 1)) (.cons (.sub 0 (.cst (.int 1)) (.bin .add (.ix (.var 0) (.cst (.int 1))) (.cst (.int 1)))) (.cons (.sub 0 (.cst (.int 2)) (.bin .mod (.bin .add (.bin .mul (.ix (.var 0) (.cst (.int 2))) (.cst (.int A))) (.bin .mul (.ix (.var 0) (.cst (.int 1))) (.cst (.int B)))) (.cst (.int 2305843009213693951)))) (.cons (.sub 0 (.cst (.int 0)) (.bin .fdiv (.bin .mul (.ix (.var 0) (.cst (.int 2))) (.ix (.var 0) (.cst (.int 2)))) (.cst (.int 4096)))) .nil))) .nil) (.cons (.asg (.nm 2) (.bin .mod (.bi .int (.cons (.ix (.var 0) (.cst (.int 0))) .nil)) (.var 1))) (.cons (.sub 0 (.cst (.int 0)) (.bin .fdiv (.ix (.var 0) (.cst (.int 0))) (.var 1))) (.cons (.ret (.var 2)) .nil))))
/-- the pool: n draws are left to it -/
structure Pool (n : Nat) (a b c : Int) : Prop where
  a0 : 0 ≤ a
  aB : a.natAbs.log2 < 100000
  b0 : 0 ≤ b
  bB : b + n < 2 ^ 60
  c0 : 0 ≤ c
  cB : c < 2305843009213693951
theorem log_lt {a : Int} {n : Nat} (h : a.natAbs < 2 ^ n) (hn : 0 < n) : a.natAbs.log2 < n := by
  by_cases z : a.natAbs = 0
  · rw [z]; simpa using hn
  · exact (Nat.log2_lt z).mpr h
theorem log_mono {a b : Int} (h0 : 0 ≤ a) (h : a ≤ b) : a.natAbs.log2 ≤ b.natAbs.log2 := by
  have : a.natAbs ≤ b.natAbs := by omega
  by_cases z : a.natAbs = 0
  · rw [z]; exact Nat.zero_le _
  · have h1 := Nat.log2_self_le z
    have hb : b.natAbs ≠ 0 := by omega
    exact (Nat.le_log2 hb).mpr (Nat.le_trans h1 this)
theorem draw_ok {A B : Int} (hA : A.natAbs.log2 < 1000) (hB : B.natAbs.log2 < 1000) {T : List Fd} {wf k j n : Nat} {a b c m : Int} (hT : T[j]? = some ⟨2, 3, b_draw A B⟩) (p : Pool (n + 1) a b c) (hm : 0 < m) (hm2 : m < 2 ^ 60) :
    ∃ r a' b' c', callF T wf (k + 1) j [.lst false [.int a, .int b, .int c], .int m] = .ok (.int r) [.lst false [.int a', .int b', .int c'], .int m] ∧ Pool n a' b' c' ∧ 0 ≤ r ∧ r < m := by
  have h1 : m.natAbs.log2 < 9000 := Nat.lt_of_lt_of_le (log_lt (n := 60) (by omega) (by decide)) (by decide)
  obtain ⟨a0, aB, b0, bB, c0, cB⟩ := p
  by_cases h : a < m
  · have hb : b + 1 < 2 ^ 60 := by omega
    have l1 : c.natAbs.log2 + A.natAbs.log2 < 1000000 := by
      have := log_lt (a := c) (n := 61) (by omega) (by decide)
      omega
    have l2 : (b + 1).natAbs.log2 + B.natAbs.log2 < 1000000 := by
      have := log_lt (a := b + 1) (n := 61) (by omega) (by decide)
      omega
    obtain ⟨e, he⟩ : ∃ e, e = (c * A + (b + 1) * B) % 2305843009213693951 := ⟨_, rfl⟩
    have c1 : 0 ≤ e := by rw [he]; exact Int.emod_nonneg _ (by decide)
    have c2 : e < 2305843009213693951 := by rw [he]; exact Int.emod_lt_of_pos _ (by decide)
    have l3 : e.natAbs.log2 + e.natAbs.log2 < 1000000 := by
      have := log_lt (a := e) (n := 61) (by omega) (by decide)
      omega
    have d0 : 0 ≤ e * e / 4096 := Int.ediv_nonneg (Int.mul_nonneg c1 c1) (by decide)
    have d1 : e * e / 4096 < 2 ^ 200 := by
      have z1 : e * e ≤ 2305843009213693951 * 2305843009213693951 := Int.mul_le_mul (Int.le_of_lt c2) (Int.le_of_lt c2) c1 (by decide)
      omega
    refine ⟨e * e / 4096 % m, e * e / 4096 / m, b + 1, e, ?_, ⟨Int.ediv_nonneg d0 (Int.le_of_lt hm), ?_, by omega, by push_cast at bB; omega, c1, c2⟩, Int.emod_nonneg _ (by omega), Int.emod_lt_of_pos _ hm⟩
    · simp [callF, hasSub, frzO, isDct, evd, keyOk, keyOk1, finF, exSs, exS, ev, evs, evo, evc, evi, R.bind, R.then, evVar, gt, fin, val, two, many, Opd.get, dIx, L2.atI, L2.ixN, only, D.fzn, fzns, dCmp, gets, dBi, dBin, dAug, dNeg, asgS, asgT, asgTs, put, mayAsg, subK, augK, retV, fins, dTru, dLen, owns, opnds, mmR, dMm, Mm.md, callR0, callR, noExc, takes, puts, isTys, isTy, items, seqItems, grdOf, gOk, Ct.lock, clear, back, clearOk, D.fz, fzs, dSl, bound, D.isNon, lcR, dEq, D.plain, plains, D.dep, deps, deq, deqs, dIn, (by decide : 1 ≤ sizeLine), (by decide : 2 ≤ sizeLine), (by decide : 3 ≤ sizeLine), (by decide : 4 ≤ sizeLine), (by decide : 5 ≤ sizeLine), (by decide : 6 ≤ sizeLine), hT, b_draw, h, hm, h1, l1, l2, ← he, l3, (by decide : Nat.log2 4096 < 9000)]
    · refine Nat.lt_of_le_of_lt (log_mono (Int.ediv_nonneg d0 (Int.le_of_lt hm)) (Int.ediv_le_self _ d0)) ?_
      exact Nat.lt_of_lt_of_le (log_lt (n := 200) (by omega) (by decide)) (by decide)
  · refine ⟨a % m, a / m, b, c, ?_, ⟨Int.ediv_nonneg a0 (Int.le_of_lt hm), ?_, b0, by push_cast at bB; omega, c0, cB⟩, Int.emod_nonneg _ (by omega), Int.emod_lt_of_pos _ hm⟩
    · simp [callF, hasSub, frzO, isDct, evd, keyOk, keyOk1, finF, exSs, exS, ev, evs, evo, evc, evi, R.bind, R.then, evVar, gt, fin, val, two, many, Opd.get, dIx, L2.atI, L2.ixN, only, D.fzn, fzns, dCmp, gets, dBi, dBin, dAug, dNeg, asgS, asgT, asgTs, put, mayAsg, subK, augK, retV, fins, dTru, dLen, owns, opnds, mmR, dMm, Mm.md, callR0, callR, noExc, takes, puts, isTys, isTy, items, seqItems, grdOf, gOk, Ct.lock, clear, back, clearOk, D.fz, fzs, dSl, bound, D.isNon, lcR, dEq, D.plain, plains, D.dep, deps, deq, deqs, dIn, (by decide : 1 ≤ sizeLine), (by decide : 2 ≤ sizeLine), (by decide : 3 ≤ sizeLine), (by decide : 4 ≤ sizeLine), (by decide : 5 ≤ sizeLine), (by decide : 6 ≤ sizeLine), hT, b_draw, h, hm, h1]
    · exact Nat.lt_of_le_of_lt (log_mono (Int.ediv_nonneg a0 (Int.le_of_lt hm)) (Int.ediv_le_self _ a0)) aB

def b_poolB (E G U V Z : Int) : Ss := (.cons (.asg (.nm 3) (.bin .mod (.bi .int (.cons (.var 2) .nil)) (.bin .pow (.cst (.int 10)) (.cst (.int E))))) (.cons (.asg (.nm 4) (.cmp .ge (.var 3) (.bin .pow (.cst (.int 10)) (.cst (.int 18))))) (.cons (.asg (.nm 5) (.bin .mod (.bin .add (.bin .add (.bin .mul (.var 3) (.cst (.int G))) (.bin .mul (.ix (.var 1) (.cst (.int 1))) (.cst (.int U)))) (.cst (.int V))) (.cst (.int 2305843009213693951)))) (.cons (.asg (.nm 5) (.bin .mod (.bin .mul (.var 5) (.var 5)) (.cst (.int 2305843009213693951)))) (.cons (.sub 1 (.cst (.int 1)) (.bin .add (.ix (.var 1) (.cst (.int 1))) (.cst (.int 1)))) (.cons (.sub 1 (.cst (.int 2)) (.bin .mod (.bin .add (.bin .mul (.ix (.var 1) (.cst (.int 2))) (.cst (.int Z))) (.var 5)) (.cst (.int 2305843009213693951)))) (.cons (.sub 1 (.cst (.int 0)) (.ite (.var 4) (.bin .add (.bin .mul (.ix (.var 1) (.cst (.int 0))) (.bin .pow (.cst (.int 10)) (.cst (.int E)))) (.var 3)) (.bin .add (.bin .mul (.ix (.var 1) (.cst (.int 0))) (.cst (.int 2305843009213693951))) (.var 5)))) .nil)))))))
def s_pool (E G U V Z : Int) : S := .forr (.nm 2) (.e (.sl (.var 0) .no (.yes (.cst (.int 63))))) (b_poolB E G U V Z)
def b_pool (E G U V Z : Int) : Ss := (.cons (.asg (.nm 1) (.lst (.cons (.cst (.int 0)) (.cons (.cst (.int 0)) (.cons (.cst (.int V)) .nil))))) (.cons (s_pool E G U V Z) (.cons (.ret (.var 1)) .nil)))
/-- what the numbers of a law's pool must be -/
structure PoolC (E G U V Z M : Int) : Prop where
  e0 : 0 ≤ E
  e1 : E ≤ 1000000
  m : (10 : Int) ^ E.toNat = M
  m0 : 0 < M
  m1 : M ≤ 1645504557321206042154969182557350504982735865633579863348609024
  g : G.natAbs.log2 < 1000
  u : U.natAbs.log2 < 1000
  z : Z.natAbs.log2 < 1000
  v0 : 0 ≤ V
  v1 : V < 2305843009213693951
theorem poolB {E G U V Z M : Int} (hc : PoolC E G U V Z M) {ds : List D} {cf : Nat → List D → FR} {wf : Nat} {a b c cell : Int} {s x3 x4 x5 : Option D} (a0 : 0 ≤ a) (aB : a.natAbs.log2 < 90000) (b0 : 0 ≤ b) (bB : b < 100) (c0 : 0 ≤ c) (cB : c < 2305843009213693951) :
    ∃ a' c' y3 y4 y5, exSs ⟨1, ds, cf, wf, []⟩ (b_poolB E G U V Z) [s, some (.lst false [.int a, .int b, .int c]), some (.int cell), x3, x4, x5] = .nx [s, some (.lst false [.int a', .int (b + 1), .int c']), some (.int cell), y3, y4, y5] ∧
      0 ≤ a' ∧ a' + 1 ≤ (a + 1) * 2 ^ 210 ∧ 0 ≤ c' ∧ c' < 2305843009213693951 := by
  obtain ⟨E0, E1, hM, M0, M1, gG, gU, gZ, V0, V1⟩ := hc
  have gM : M.natAbs.log2 < 1000 := Nat.lt_of_lt_of_le (log_lt (n := 211) (by omega) (by decide)) (by decide)
  obtain ⟨low, hlow⟩ : ∃ e, e = cell % M := ⟨_, rfl⟩
  have l0 : 0 ≤ low := by rw [hlow]; exact Int.emod_nonneg _ (by omega)
  have l1 : low < M := by rw [hlow]; exact Int.emod_lt_of_pos _ M0
  obtain ⟨m0, hm0⟩ : ∃ e, e = (low * G + b * U + V) % 2305843009213693951 := ⟨_, rfl⟩
  have n0 : 0 ≤ m0 := by rw [hm0]; exact Int.emod_nonneg _ (by decide)
  have n1 : m0 < 2305843009213693951 := by rw [hm0]; exact Int.emod_lt_of_pos _ (by decide)
  obtain ⟨m1, hm1⟩ : ∃ e, e = (m0 * m0) % 2305843009213693951 := ⟨_, rfl⟩
  have o0 : 0 ≤ m1 := by rw [hm1]; exact Int.emod_nonneg _ (by decide)
  have o1 : m1 < 2305843009213693951 := by rw [hm1]; exact Int.emod_lt_of_pos _ (by decide)
  obtain ⟨c1, hc1⟩ : ∃ e, e = (c * Z + m1) % 2305843009213693951 := ⟨_, rfl⟩
  have p0 : 0 ≤ c1 := by rw [hc1]; exact Int.emod_nonneg _ (by decide)
  have p1 : c1 < 2305843009213693951 := by rw [hc1]; exact Int.emod_lt_of_pos _ (by decide)
  have g1 : low.natAbs.log2 + G.natAbs.log2 < 1000000 := by
    have := log_lt (a := low) (n := 210) (by omega) (by decide)
    omega
  have g2 : b.natAbs.log2 + U.natAbs.log2 < 1000000 := by
    have := log_lt (a := b) (n := 210) (by omega) (by decide)
    omega
  have g3 : m0.natAbs.log2 + m0.natAbs.log2 < 1000000 := by
    have := log_lt (a := m0) (n := 210) (by omega) (by decide)
    omega
  have g4 : c.natAbs.log2 + Z.natAbs.log2 < 1000000 := by
    have := log_lt (a := c) (n := 210) (by omega) (by decide)
    omega
  have g5 : a.natAbs.log2 + M.natAbs.log2 < 1000000 := by
    omega
  have g6 : a.natAbs.log2 + Nat.log2 2305843009213693951 < 1000000 := by
    have : Nat.log2 2305843009213693951 < 1000 := by decide
    omega
  by_cases h : 1000000000000000000 ≤ low
  · refine ⟨a * M + low, c1, some (.int low), some (.bl true), some (.int m1), ?_, ?_, ?_, p0, p1⟩
    · simp [callF, hasSub, frzO, isDct, evd, keyOk, keyOk1, finF, exSs, exS, ev, evs, evo, evc, evi, R.bind, R.then, evVar, gt, fin, val, two, many, Opd.get, dIx, L2.atI, L2.ixN, only, D.fzn, fzns, dCmp, gets, dBi, dBin, dAug, dNeg, asgS, asgT, asgTs, put, mayAsg, subK, augK, retV, fins, dTru, dLen, owns, opnds, mmR, dMm, Mm.md, callR0, callR, noExc, takes, puts, isTys, isTy, items, seqItems, grdOf, gOk, Ct.lock, clear, back, clearOk, D.fz, fzs, dSl, bound, D.isNon, lcR, dEq, D.plain, plains, D.dep, deps, deq, deqs, dIn, (by decide : 1 ≤ sizeLine), (by decide : 2 ≤ sizeLine), (by decide : 3 ≤ sizeLine), (by decide : 4 ≤ sizeLine), (by decide : 5 ≤ sizeLine), (by decide : 6 ≤ sizeLine), b_poolB, E0, E1, hM, M0, ← hlow, h, ← hm0, ← hm1, ← hc1, g1, g2, g3, g4, g5]
    · exact Int.add_nonneg (Int.mul_nonneg a0 (by omega)) l0
    · have z : (2 : Int) ^ 210 = 1645504557321206042154969182557350504982735865633579863348609024 := by decide
      rw [z]
      have q1 : (a + 1) * M = a * M + M := by rw [Int.add_mul, Int.one_mul]
      have q2 : (a + 1) * M ≤ (a + 1) * 1645504557321206042154969182557350504982735865633579863348609024 := Int.mul_le_mul_of_nonneg_left M1 (by omega)
      omega
  · refine ⟨a * 2305843009213693951 + m1, c1, some (.int low), some (.bl false), some (.int m1), ?_, ?_, ?_, p0, p1⟩
    · simp [callF, hasSub, frzO, isDct, evd, keyOk, keyOk1, finF, exSs, exS, ev, evs, evo, evc, evi, R.bind, R.then, evVar, gt, fin, val, two, many, Opd.get, dIx, L2.atI, L2.ixN, only, D.fzn, fzns, dCmp, gets, dBi, dBin, dAug, dNeg, asgS, asgT, asgTs, put, mayAsg, subK, augK, retV, fins, dTru, dLen, owns, opnds, mmR, dMm, Mm.md, callR0, callR, noExc, takes, puts, isTys, isTy, items, seqItems, grdOf, gOk, Ct.lock, clear, back, clearOk, D.fz, fzs, dSl, bound, D.isNon, lcR, dEq, D.plain, plains, D.dep, deps, deq, deqs, dIn, (by decide : 1 ≤ sizeLine), (by decide : 2 ≤ sizeLine), (by decide : 3 ≤ sizeLine), (by decide : 4 ≤ sizeLine), (by decide : 5 ≤ sizeLine), (by decide : 6 ≤ sizeLine), b_poolB, E0, E1, hM, M0, ← hlow, h, ← hm0, ← hm1, ← hc1, g1, g2, g3, g4, g6]
    · exact Int.add_nonneg (Int.mul_nonneg a0 (by decide)) o0
    · have z : (2 : Int) ^ 210 = 1645504557321206042154969182557350504982735865633579863348609024 := by decide
      rw [z]
      omega

theorem exS_for {C : Ct} {t : Tg} {it : It} {b : Ss} {ρ ρ1 : Env} {xs : List D} {gs : Grd} (h : evi C it ρ = .ok (xs, gs) ρ1) (g : gOk gs ρ1 = true) : exS C (.forr t it b) ρ = forL (C.lock gs) t gs (fun ρ' => exSs (C.lock gs) b ρ') xs ρ1 := by
  simp only [exS, h, R.then, g, if_pos]
theorem fzns_int : ∀ ns : List Int, fzns (ns.map D.int) = true
  | [] => rfl
  | n :: ns => by simp only [List.map_cons, fzns, D.fzn, fzns_int ns, Bool.true_and]
theorem cut_take {α : Type} (xs : List α) (n : Nat) : cut xs none (some (n : Int)) = xs.take n := by
  unfold cut
  rw [HT.sIx_none, HT.sIx_nat]
  simp only [List.drop_zero, Nat.sub_zero]
  rw [List.take_eq_take_iff]
  omega
theorem two_pow {i j : Nat} (h : i ≤ j) : (2 : Int) ^ i ≤ 2 ^ j := by
  have z : (2 : Nat) ^ i ≤ 2 ^ j := Nat.pow_le_pow_right (by decide) h
  exact_mod_cast z
theorem pool_loop {E G U V Z M : Int} (hc : PoolC E G U V Z M) {cf : Nat → List D → FR} {wf : Nat} (ns : List Int) : ∃ a b c x2 x3 x4 x5, exS ⟨1, [.lst true (ns.map .int)], cf, wf, []⟩ (s_pool E G U V Z) [some (.lst true (ns.map .int)), some (.lst false [.int 0, .int 0, .int V]), none, none, none, none] =
    .nx [some (.lst true (ns.map .int)), some (.lst false [.int a, .int b, .int c]), x2, x3, x4, x5] ∧ Pool (2 ^ 50) a b c := by
  have e1 : cut (ns.map D.int) none (some 63) = (ns.take 63).map D.int := by
    rw [show (63 : Int) = ((63 : Nat) : Int) from rfl, cut_take, List.map_take]
  have e2 : (ns.take 63).length ≤ 63 := by rw [List.length_take]; omega
  generalize ns.take 63 = ms at e1 e2
  have he : evi ⟨1, [.lst true (ns.map .int)], cf, wf, []⟩ (.e (.sl (.var 0) .no (.yes (.cst (.int 63))))) [some (.lst true (ns.map .int)), some (.lst false [.int 0, .int 0, .int V]), none, none, none, none] =
      .ok (ms.map .int, []) [some (.lst true (ns.map .int)), some (.lst false [.int 0, .int 0, .int V]), none, none, none, none] := by
    simp [callF, hasSub, frzO, isDct, evd, keyOk, keyOk1, finF, exSs, exS, ev, evs, evo, evc, evi, R.bind, R.then, evVar, gt, fin, val, two, many, Opd.get, dIx, L2.atI, L2.ixN, only, D.fzn, fzns, dCmp, gets, dBi, dBin, dAug, dNeg, asgS, asgT, asgTs, put, mayAsg, subK, augK, retV, fins, dTru, dLen, owns, opnds, mmR, dMm, Mm.md, callR0, callR, noExc, takes, puts, isTys, isTy, items, seqItems, grdOf, gOk, Ct.lock, clear, back, clearOk, D.fz, fzs, dSl, bound, D.isNon, lcR, dEq, D.plain, plains, D.dep, deps, deq, deqs, dIn, (by decide : 1 ≤ sizeLine), (by decide : 2 ≤ sizeLine), (by decide : 3 ≤ sizeLine), (by decide : 4 ≤ sizeLine), (by decide : 5 ≤ sizeLine), (by decide : 6 ≤ sizeLine), e1, fzns_int]
  let J : List D → Env → Prop := fun xs ρ => ∃ (ks : List Int) (a b c : Int) (x2 x3 x4 x5 : Option D), xs = ks.map D.int ∧ ρ = [some (.lst true (ns.map .int)), some (.lst false [.int a, .int b, .int c]), x2, x3, x4, x5] ∧
      0 ≤ a ∧ a + 1 ≤ 2 ^ (210 * (63 - ks.length)) ∧ ks.length ≤ 63 ∧ 0 ≤ b ∧ b + ks.length ≤ 63 ∧ 0 ≤ c ∧ c < 2305843009213693951
  have top : ∀ n a : Nat, ∀ x : Int, 0 ≤ x → x + 1 ≤ 2 ^ (210 * (63 - n)) → x.natAbs.log2 < 90000 := fun n a x x0 xB => by
    refine Nat.lt_of_lt_of_le (log_lt (n := 210 * 63) ?_ (by decide)) (by decide)
    have z : (2 : Int) ^ (210 * (63 - n)) ≤ 2 ^ (210 * 63) := two_pow (by omega)
    have z2 : (2 : Int) ^ (210 * 63) = ((2 ^ (210 * 63) : Nat) : Int) := by rw [Int.natCast_pow]; rfl
    rw [z2] at z
    generalize (2 : Nat) ^ (210 * 63) = Z at z ⊢
    omega
  have step : ∀ x xs ρ, J (x :: xs) ρ → ∃ ρ1 ρ2, asgT ⟨1, [.lst true (ns.map .int)], cf, wf, []⟩ (.nm 2) x ρ = some ρ1 ∧ exSs ⟨1, [.lst true (ns.map .int)], cf, wf, []⟩ (b_poolB E G U V Z) ρ1 = .nx ρ2 ∧ gOk [] ρ2 = true ∧ J xs ρ2 := fun x xs ρ hJ => by
    obtain ⟨ks, a, b, c, x2, x3, x4, x5, q, rfl, a0, aB, kl, b0, bB, c0, cB⟩ := hJ
    cases ks with
    | nil => cases q
    | cons m ks =>
      simp only [List.map_cons, List.cons.injEq] at q
      obtain ⟨rfl, rfl⟩ := q
      have aL := top _ 0 a a0 aB
      simp only [List.length_cons] at kl bB aB
      obtain ⟨a', c', y3, y4, y5, e, h1, h2, h3, h4⟩ := poolB hc (ds := [.lst true (ns.map .int)]) (cf := cf) (wf := wf) (cell := m) (s := some (.lst true (ns.map .int))) (x3 := x3) (x4 := x4) (x5 := x5) a0 aL b0 (by omega : b < 100) c0 cB
      refine ⟨[some (.lst true (ns.map .int)), some (.lst false [.int a, .int b, .int c]), some (.int m), x3, x4, x5], _, by simp [callF, hasSub, frzO, isDct, evd, keyOk, keyOk1, finF, exSs, exS, ev, evs, evo, evc, evi, R.bind, R.then, evVar, gt, fin, val, two, many, Opd.get, dIx, L2.atI, L2.ixN, only, D.fzn, fzns, dCmp, gets, dBi, dBin, dAug, dNeg, asgS, asgT, asgTs, put, mayAsg, subK, augK, retV, fins, dTru, dLen, owns, opnds, mmR, dMm, Mm.md, callR0, callR, noExc, takes, puts, isTys, isTy, items, seqItems, grdOf, gOk, Ct.lock, clear, back, clearOk, D.fz, fzs, dSl, bound, D.isNon, lcR, dEq, D.plain, plains, D.dep, deps, deq, deqs, dIn, (by decide : 1 ≤ sizeLine), (by decide : 2 ≤ sizeLine), (by decide : 3 ≤ sizeLine), (by decide : 4 ≤ sizeLine), (by decide : 5 ≤ sizeLine), (by decide : 6 ≤ sizeLine)], e, rfl, ks, a', b + 1, c', _, y3, y4, y5, rfl, rfl, h1, ?_, by omega, by omega, by omega, h3, h4⟩
      have z3 : 210 * (63 - ks.length) = 210 * (63 - (ks.length + 1)) + 210 := by omega
      rw [z3, Int.pow_add]
      exact Int.le_trans h2 (Int.mul_le_mul_of_nonneg_right aB (by decide))
  have start : J (ms.map .int) [some (.lst true (ns.map .int)), some (.lst false [.int 0, .int 0, .int V]), none, none, none, none] :=
    ⟨ms, 0, 0, V, none, none, none, none, rfl, rfl, by decide, two_pow (i := 0) (Nat.zero_le _), e2, by decide, by omega, hc.v0, hc.v1⟩
  obtain ⟨ρ', h1, h2⟩ := forL_nx (gs := []) J step _ _ start
  obtain ⟨ks, a, b, c, x2, x3, x4, x5, q, rfl, a0, aB, _, b0, bB, c0, cB⟩ := h2
  refine ⟨a, b, c, x2, x3, x4, x5, ?_, a0, Nat.lt_trans (top _ 0 a a0 aB) (by decide), b0, ?_, c0, cB⟩
  · rw [s_pool, exS_for he rfl]
    exact h1
  · have : b ≤ 63 := by omega
    have z : (2 : Nat) ^ 50 = 1125899906842624 := by decide
    rw [z]
    omega
theorem pool_ok {E G U V Z M : Int} (hc : PoolC E G U V Z M) {T : List Fd} {wf k j : Nat} (hT : T[j]? = some ⟨1, 6, b_pool E G U V Z⟩) (ns : List Int) : ∃ a b c, callF T wf (k + 1) j [.lst true (ns.map .int)] = .ok (.lst false [.int a, .int b, .int c]) [.lst true (ns.map .int)] ∧ Pool (2 ^ 50) a b c := by
  obtain ⟨a, b, c, x2, x3, x4, x5, e, p⟩ := pool_loop hc (cf := callF T wf k) (wf := wf) ns
  refine ⟨a, b, c, ?_, p⟩
  have z : ∀ ρ, exS ⟨1, [.lst true (ns.map .int)], callF T wf k, wf, []⟩ (s_pool E G U V Z) ρ = exS ⟨1, [.lst true (ns.map .int)], callF T wf k, wf, []⟩ (s_pool E G U V Z) ρ := fun _ => rfl
  simp [callF, hasSub, frzO, isDct, evd, keyOk, keyOk1, finF, exSs, exS, ev, evs, evo, evc, evi, R.bind, R.then, evVar, gt, fin, val, two, many, Opd.get, dIx, L2.atI, L2.ixN, only, D.fzn, fzns, dCmp, gets, dBi, dBin, dAug, dNeg, asgS, asgT, asgTs, put, mayAsg, subK, augK, retV, fins, dTru, dLen, owns, opnds, mmR, dMm, Mm.md, callR0, callR, noExc, takes, puts, isTys, isTy, items, seqItems, grdOf, gOk, Ct.lock, clear, back, clearOk, D.fz, fzs, dSl, bound, D.isNon, lcR, dEq, D.plain, plains, D.dep, deps, deq, deqs, dIn, (by decide : 1 ≤ sizeLine), (by decide : 2 ≤ sizeLine), (by decide : 3 ≤ sizeLine), (by decide : 4 ≤ sizeLine), (by decide : 5 ≤ sizeLine), (by decide : 6 ≤ sizeLine), hT, b_pool, sizeLine, e, fzns_int]
end Aw

set_option Elab.async false
set_option linter.all false
set_option maxRecDepth 100000
set_option maxHeartbeats 4000000
/-! Lq: the laws' draws: order, word, column. -/
namespace Aw
open PySem

abbrev P3 := Int × Int × Int
def pd (p : P3) : D := .lst false [.int p.1, .int p.2.1, .int p.2.2]
@[simp] theorem pd_fzn (p : P3) : (pd p).fzn = false := rfl
def PoolP (n : Nat) (p : P3) : Prop := Pool n p.1 p.2.1 p.2.2
theorem PoolP.mono {m n : Nat} {p : P3} (h : PoolP n p) (le : m ≤ n) : PoolP m p := ⟨h.a0, h.aB, h.b0, by have := h.bB; omega, h.c0, h.cB⟩
def DrawS (cf : List D → FR) : Prop := ∀ (n : Nat) (p : P3) (m : Int), PoolP (n + 1) p → 0 < m → m < 2 ^ 60 → ∃ (r : Nat) (p' : P3), cf [pd p, .int m] = .ok (.int (r : Int)) [pd p', .int m] ∧ PoolP n p' ∧ (r : Int) < m
theorem draw_s {A B : Int} (hA : A.natAbs.log2 < 1000) (hB : B.natAbs.log2 < 1000) {T : List Fd} {wf k j : Nat} (hT : T[j]? = some ⟨2, 3, b_draw A B⟩) : DrawS (callF T wf (k + 1) j) := fun n p m hp h1 h2 => by
  obtain ⟨r, a, b, c, e, q, r0, r1⟩ := draw_ok hA hB (T := T) (wf := wf) (k := k) (j := j) hT hp h1 h2
  exact ⟨r.toNat, (a, b, c), by rw [Int.toNat_of_nonneg r0]; exact e, q, by rw [Int.toNat_of_nonneg r0]; exact r1⟩
theorem fzns_iff : ∀ xs : List D, fzns xs = true ↔ ∀ x ∈ xs, x.fzn = true
  | [] => by simp [fzns]
  | x :: xs => by simp [fzns, fzns_iff xs]
theorem cut_drop {α : Type} (xs : List α) (n : Nat) : cut xs (some ((n : Int) + 1)) none = xs.drop (n + 1) := by
  unfold cut
  rw [show (n : Int) + 1 = ((n + 1 : Nat) : Int) from rfl, HT.sIx_none, HT.sIx_nat]
  by_cases h : n + 1 ≤ xs.length
  · rw [Nat.min_eq_left h]
    exact List.take_of_length_le (by simp)
  · rw [Nat.min_eq_right (by omega), List.drop_of_length_le (Nat.le_refl _), List.drop_of_length_le (by omega)]
    simp
theorem at_some {xs : List D} {r : Nat} (h : r < xs.length) : ∃ y, xs[r]? = some y ∧ y ∈ xs := ⟨xs[r], List.getElem?_eq_getElem h, List.getElem_mem h⟩

/-! ### order -/
def b_orderB (j : Nat) : Ss := (.cons (.asg (.nm 5) (.call j (.cons (.var 0) (.cons (.bi .len (.cons (.var 2) .nil)) .nil)))) (.cons (.ex (.mm .append 3 (.cons (.ix (.var 2) (.var 5)) .nil))) (.cons (.asg (.nm 2) (.bin .add (.sl (.var 2) .no (.yes (.var 5))) (.sl (.var 2) (.yes (.bin .add (.var 5) (.cst (.int 1)))) .no))) .nil)))
def s_order (j : Nat) : S := .forr (.nm 4) (.rng (.cons (.bi .len (.cons (.var 2) .nil)) .nil)) (b_orderB j)
def b_order (j : Nat) : Ss := (.cons (.asg (.nm 2) (.bi .list (.cons (.var 1) .nil))) (.cons (.asg (.nm 3) (.lst .nil)) (.cons (s_order j) (.cons (.ret (.var 3)) .nil))))
def OrderS (cf : List D → FR) : Prop := ∀ (n : Nat) (p : P3) (xs : List D), PoolP (n + xs.length) p → fzns xs = true → xs.length ≤ 1000 → ∃ (ys : List D) (p' : P3), cf [pd p, .lst false xs] = .ok (.lst false ys) [pd p', .lst false xs] ∧ PoolP n p' ∧ ys.length = xs.length ∧ ∀ y ∈ ys, y ∈ xs
theorem orderB {j wf n : Nat} {cf : Nat → List D → FR} (hd : DrawS (cf j)) {left found : List D} {s x4 x5 : Option D} {p : P3} (hp : PoolP (n + 1) p) (h0 : 0 < left.length) (hl : left.length ≤ 1000) (hf : found.length ≤ 1000) (hz : fzns left = true) (a : List D) {p0 : P3} :
    ∃ y r p', exSs ⟨2, [pd p0, .lst false a], cf, wf, []⟩ (b_orderB j) [some (pd p), s, some (.lst false left), some (.lst false found), x4, x5] = .nx [some (pd p'), s, some (.lst false (left.take r ++ left.drop (r + 1))), some (.lst false (found ++ [y])), x4, some (.int (r : Int))] ∧
      PoolP n p' ∧ r < left.length ∧ left[r]? = some y := by
  obtain ⟨r, p', e, q, hr⟩ := hd n p (left.length : Int) hp (by omega) (by omega)
  have hr' : r < left.length := by omega
  have zy : left[r].fzn = true := (fzns_iff left).mp hz _ (List.getElem_mem hr')
  have z1 : fzns (left.take r) = true := (fzns_iff _).mpr fun x m => (fzns_iff left).mp hz x (List.mem_of_mem_take m)
  have z2 : fzns (left.drop (r + 1)) = true := (fzns_iff _).mpr fun x m => (fzns_iff left).mp hz x (List.mem_of_mem_drop m)
  have l1 : found.length < sizeLine := Nat.lt_of_le_of_lt hf (by decide)
  have l2 : min r left.length + (left.length - (r + 1)) ≤ sizeLine := Nat.le_trans (by omega : _ ≤ 1000) (by decide)
  refine ⟨left[r], r, p', ?_, q, hr', List.getElem?_eq_getElem hr'⟩
  simp [callF, hasSub, frzO, isDct, evd, keyOk, keyOk1, finF, exSs, exS, ev, evs, evo, evc, evi, R.bind, R.then, evVar, gt, fin, val, two, many, Opd.get, dIx, L2.atI, L2.ixN, only, D.fzn, fzns, dCmp, gets, dBi, dBin, dAug, dNeg, asgS, asgT, asgTs, put, mayAsg, subK, augK, retV, fins, dTru, dLen, owns, opnds, mmR, dMm, Mm.md, callR0, callR, noExc, takes, puts, isTys, isTy, items, seqItems, grdOf, gOk, Ct.lock, clear, back, clearOk, D.fz, fzs, dSl, bound, D.isNon, lcR, dEq, D.plain, plains, D.dep, deps, deq, deqs, dIn, (by decide : 1 ≤ sizeLine), (by decide : 2 ≤ sizeLine), (by decide : 3 ≤ sizeLine), (by decide : 4 ≤ sizeLine), (by decide : 5 ≤ sizeLine), (by decide : 6 ≤ sizeLine), b_orderB, e, hr', zy, cut_take, cut_drop, hz, z1, z2, l1, l2]

theorem enough {n : Nat} (h : n ≤ 1000) : n ≤ sizeLine := Nat.le_trans h (by decide)
theorem rngL_len (lo : Int) (n : Nat) : (rngL lo n).length = n := by simp [rngL]
theorem order_loop {j wf n : Nat} {cf : Nat → List D → FR} (hd : DrawS (cf j)) {xs : List D} {p : P3} (hp : PoolP (n + xs.length) p) (hz : fzns xs = true) (hl : xs.length ≤ 1000) :
    ∃ p' left ys x4 x5, exS ⟨2, [pd p, .lst false xs], cf, wf, []⟩ (s_order j) [some (pd p), some (.lst false xs), some (.lst false xs), some (.lst false []), none, none] = .nx [some (pd p'), some (.lst false xs), left, some (.lst false ys), x4, x5] ∧ PoolP n p' ∧ ys.length = xs.length ∧ ∀ y ∈ ys, y ∈ xs := by
  have l0 := enough hl
  have he : evi ⟨2, [pd p, .lst false xs], cf, wf, []⟩ (.rng (.cons (.bi .len (.cons (.var 2) .nil)) .nil)) [some (pd p), some (.lst false xs), some (.lst false xs), some (.lst false []), none, none] = .ok (rngL 0 xs.length, []) [some (pd p), some (.lst false xs), some (.lst false xs), some (.lst false []), none, none] := by
    have l1 : (xs.length : Int) ≤ (sizeLine : Nat) := by omega
    have l2 : -4611686018427387904 ≤ (xs.length : Int) := by omega
    simp [callF, hasSub, frzO, isDct, evd, keyOk, keyOk1, finF, exSs, exS, ev, evs, evo, evc, evi, R.bind, R.then, evVar, gt, fin, val, two, many, Opd.get, dIx, L2.atI, L2.ixN, only, D.fzn, fzns, dCmp, gets, dBi, dBin, dAug, dNeg, asgS, asgT, asgTs, put, mayAsg, subK, augK, retV, fins, dTru, dLen, owns, opnds, mmR, dMm, Mm.md, callR0, callR, noExc, takes, puts, isTys, isTy, items, seqItems, grdOf, gOk, Ct.lock, clear, back, clearOk, D.fz, fzs, dSl, bound, D.isNon, lcR, dEq, D.plain, plains, D.dep, deps, deq, deqs, dIn, (by decide : 1 ≤ sizeLine), (by decide : 2 ≤ sizeLine), (by decide : 3 ≤ sizeLine), (by decide : 4 ≤ sizeLine), (by decide : 5 ≤ sizeLine), (by decide : 6 ≤ sizeLine), dRng, l1, l2]
  let J : List D → Env → Prop := fun rs ρ => ∃ (p' : P3) (left found : List D) (x4 x5 : Option D), ρ = [some (pd p'), some (.lst false xs), some (.lst false left), some (.lst false found), x4, x5] ∧ left.length = rs.length ∧ PoolP (n + rs.length) p' ∧ (∀ y ∈ left, y ∈ xs) ∧ (∀ y ∈ found, y ∈ xs) ∧ found.length + rs.length = xs.length
  have step : ∀ x rs ρ, J (x :: rs) ρ → ∃ ρ1 ρ2, asgT ⟨2, [pd p, .lst false xs], cf, wf, []⟩ (.nm 4) x ρ = some ρ1 ∧ exSs ⟨2, [pd p, .lst false xs], cf, wf, []⟩ (b_orderB j) ρ1 = .nx ρ2 ∧ gOk [] ρ2 = true ∧ J rs ρ2 := fun x rs ρ hJ => by
    obtain ⟨p1, left, found, x4, x5, rfl, h1, h2, h3, h4, h5⟩ := hJ
    simp only [List.length_cons] at h1 h2 h5
    have zl : fzns left = true := (fzns_iff _).mpr fun y m => (fzns_iff xs).mp hz y (h3 y m)
    obtain ⟨y, r, p2, e, q, hr, hy⟩ := orderB (n := n + rs.length) (wf := wf) (s := some (.lst false xs)) (x4 := some x) (x5 := x5) (found := found) hd h2 (by omega : 0 < left.length) (by omega) (by omega) zl xs
    refine ⟨_, _, rfl, e, rfl, p2, _, _, _, _, rfl, ?_, q, ?_, ?_, ?_⟩
    · simp only [List.length_append, List.length_take, List.length_drop]; omega
    · intro y' m
      rcases List.mem_append.mp m with m | m
      · exact h3 y' (List.mem_of_mem_take m)
      · exact h3 y' (List.mem_of_mem_drop m)
    · intro y' m
      rcases List.mem_append.mp m with m | m
      · exact h4 y' m
      · rw [List.mem_singleton.mp m]
        exact h3 y (List.mem_of_getElem? hy)
    · simp only [List.length_append, List.length_cons, List.length_nil]; omega
  have start : J (rngL 0 xs.length) [some (pd p), some (.lst false xs), some (.lst false xs), some (.lst false []), none, none] := ⟨p, xs, [], none, none, rfl, by rw [rngL_len], by rw [rngL_len]; exact hp, fun _ m => m, by simp, by rw [rngL_len]; simp⟩
  obtain ⟨ρ', h1, p', left, found, x4, x5, rfl, g1, g2, g3, g4, g5⟩ := forL_nx (gs := []) J step _ _ start
  refine ⟨p', some (.lst false left), found, x4, x5, ?_, g2, by simpa using g5, g4⟩
  rw [s_order, exS_for he rfl]
  exact h1
theorem order_s {T : List Fd} {wf k j i : Nat} (hT : T[i]? = some ⟨2, 6, b_order j⟩) (hd : DrawS (callF T wf k j)) : OrderS (callF T wf (k + 1) i) := fun n p xs hp hz hl => by
  obtain ⟨p', left, ys, x4, x5, e, q, h1, h2⟩ := order_loop (wf := wf) hd hp hz hl
  refine ⟨ys, p', ?_, q, h1, h2⟩
  simp [callF, hasSub, frzO, isDct, evd, keyOk, keyOk1, finF, exSs, exS, ev, evs, evo, evc, evi, R.bind, R.then, evVar, gt, fin, val, two, many, Opd.get, dIx, L2.atI, L2.ixN, only, D.fzn, fzns, dCmp, gets, dBi, dBin, dAug, dNeg, asgS, asgT, asgTs, put, mayAsg, subK, augK, retV, fins, dTru, dLen, owns, opnds, mmR, dMm, Mm.md, callR0, callR, noExc, takes, puts, isTys, isTy, items, seqItems, grdOf, gOk, Ct.lock, clear, back, clearOk, D.fz, fzs, dSl, bound, D.isNon, lcR, dEq, D.plain, plains, D.dep, deps, deq, deqs, dIn, (by decide : 1 ≤ sizeLine), (by decide : 2 ≤ sizeLine), (by decide : 3 ≤ sizeLine), (by decide : 4 ≤ sizeLine), (by decide : 5 ≤ sizeLine), (by decide : 6 ≤ sizeLine), hT, b_order, e, hz, (by decide : 0 ≤ sizeLine)]
end Aw

set_option Elab.async false
set_option linter.all false
set_option maxRecDepth 100000
set_option maxHeartbeats 4000000
/-! Lr: word, column, slots. -/
namespace Aw
open PySem
theorem lc_eq {C : Ct} {own : List Nat} {t : Tg} {it : It} {c : Eo} {e : E} {ρ ρ1 ρ2 : Env} {xs ds : List D} {gs : Grd} {md : Md} (hm : md ≠ .test) (h : evi C it ρ = .ok (xs, gs) ρ1) (g : clearOk (C.lock gs) ρ1 own = true) (g2 : gOk gs ρ1 = true)
    (l : lcL (C.lock gs) own t gs (fun ρ' => evc (C.lock gs) c ρ') (fun ρ' => ev (C.lock gs) e .keep ρ') xs ρ1 = .ok ds ρ2) : ev C (.lc own t it c e) md ρ = .ok (.own (.lst false ds)) (back ρ1 ρ2 own) := by
  have z : ev C (.lc own t it c e) md ρ = fin md ((evi C it ρ).bind fun xg ρ1 => lcR C own t xg.2 (fun ρ' => evc (C.lock xg.2) c ρ') (fun ρ' => ev (C.lock xg.2) e .keep ρ') xg.1 ρ1) := by rw [ev]
  rw [z, h]
  cases md with
  | test => exact absurd rfl hm
  | keep => simp only [fin, R.bind, lcR, g, g2, Bool.and_self, if_pos, l, noExc]
  | read => simp only [fin, R.bind, lcR, g, g2, Bool.and_self, if_pos, l, noExc]
theorem rng1 {n : Nat} (h : n ≤ 1000) : dRng [.int (n : Int)] = some (rngL 0 n) := by
  have l1 : (n : Int) ≤ (sizeLine : Nat) := by have := enough h; omega
  have l2 : -4611686018427387904 ≤ (n : Int) := by omega
  simp [dRng, l1, l2]

/-! ### word -/
def e_word (j : Nat) : E := .lc [5] (.nm 5) (.rng (.cons (.var 4) .nil)) .no (.ix (.var 1) (.call j (.cons (.var 0) (.cons (.bi .len (.cons (.var 1) .nil)) .nil))))
def b_word (j : Nat) : Ss := (.cons (.asg (.nm 4) (.bin .add (.var 2) (.call j (.cons (.var 0) (.cons (.bin .add (.bin .sub (.var 3) (.var 2)) (.cst (.int 1))) .nil))))) (.cons (.ret (.mt .join (.cst (.str "")) (.cons (e_word j) .nil))) .nil))
def WordS (cf : List D → FR) : Prop := ∀ (n : Nat) (p : P3) (z : Str) (least most : Nat), PoolP (n + most + 1) p → 0 < z.length → z.length ≤ 1000 → least ≤ most → most ≤ 1000 →
  ∃ (w : Str) (p' : P3), cf [pd p, .str z, .int least, .int most] = .ok (.str w) [pd p', .str z, .int least, .int most] ∧ PoolP n p' ∧ w.length ≤ most
theorem strs_ones : ∀ {xs ds : List D}, All2 (fun _ d => ∃ c : Nat, d = .str ⟨#[c]⟩) xs ds → ∃ ys, dStrs ds = some ys ∧ ys.length = xs.length ∧ ∀ y ∈ ys, y.length = 1
  | _, _, .nil => ⟨[], rfl, rfl, by simp⟩
  | _, _, .cons ⟨c, e⟩ t => by
    obtain ⟨ys, h1, h2, h3⟩ := strs_ones t
    subst e
    exact ⟨⟨#[c]⟩ :: ys, by simp [dStrs, h1], by simp [h2], fun y m => by
      rcases List.mem_cons.mp m with m | m
      · subst m; rfl
      · exact h3 y m⟩
theorem sum_ones : ∀ ys : List Str, (∀ y ∈ ys, y.length = 1) → (ys.map Str.length).sum = ys.length
  | [], _ => rfl
  | y :: ys, h => by
    rw [List.map_cons, List.sum_cons, sum_ones ys fun x m => h x (List.mem_cons_of_mem _ m), h y List.mem_cons_self, List.length_cons]
    omega
theorem join_ok {xs ds : List D} (h : All2 (fun _ d => ∃ c : Nat, d = .str ⟨#[c]⟩) xs ds) (hl : xs.length ≤ 1000) : ∃ w : Str, dMt .join (Str.ofString "") [.lst false ds] = some (.str w) ∧ w.length = xs.length := by
  obtain ⟨ys, h1, h2, h3⟩ := strs_ones h
  refine ⟨Txt.join (Str.ofString "") ys, ?_, by rw [PySem.W.KT.join_ones ys h3, h2]⟩
  have z : joined (Str.ofString "") ys ≤ 16777216 := by
    unfold joined
    rw [sum_ones ys h3, show (Str.ofString "").length = 0 from rfl, h2]
    omega
  simp only [dMt, h1, if_pos z]
theorem word_lc {j wf n size : Nat} {cf : Nat → List D → FR} {ds : List D} {z : Str} {x2 x3 : Option D} {p : P3} (hd : DrawS (cf j)) (hp : PoolP (n + size) p) (h0 : 0 < z.length) (hz : z.length ≤ 1000) (hs : size ≤ 1000) :
    ∃ ys p', ev ⟨4, ds, cf, wf, []⟩ (e_word j) .read [some (pd p), some (.str z), x2, x3, some (.int (size : Int)), none] = .ok (.own (.lst false ys)) [some (pd p'), some (.str z), x2, x3, some (.int (size : Int)), none] ∧ PoolP n p' ∧ All2 (fun _ d => ∃ c : Nat, d = .str ⟨#[c]⟩) (rngL 0 size) ys := by
  have he : evi ⟨4, ds, cf, wf, []⟩ (.rng (.cons (.var 4) .nil)) [some (pd p), some (.str z), x2, x3, some (.int (size : Int)), none] = .ok (rngL 0 size, []) [some (pd p), some (.str z), x2, x3, some (.int (size : Int)), none] := by
    simp [callF, hasSub, frzO, isDct, evd, keyOk, keyOk1, finF, exSs, exS, ev, evs, evo, evc, evi, R.bind, R.then, evVar, gt, fin, val, two, many, Opd.get, dIx, L2.atI, L2.ixN, only, D.fzn, fzns, dCmp, gets, dBi, dBin, dAug, dNeg, asgS, asgT, asgTs, put, mayAsg, subK, augK, retV, fins, dTru, dLen, owns, opnds, mmR, dMm, Mm.md, callR0, callR, noExc, takes, puts, isTys, isTy, items, seqItems, grdOf, gOk, Ct.lock, clear, back, clearOk, D.fz, fzs, dSl, bound, D.isNon, lcR, dEq, D.plain, plains, D.dep, deps, deq, deqs, dIn, (by decide : 1 ≤ sizeLine), (by decide : 2 ≤ sizeLine), (by decide : 3 ≤ sizeLine), (by decide : 4 ≤ sizeLine), (by decide : 5 ≤ sizeLine), (by decide : 6 ≤ sizeLine), rng1 hs]
  let J : List D → Env → Prop := fun rs ρ => ∃ (p' : P3) (x5 : Option D), ρ = [some (pd p'), some (.str z), x2, x3, some (.int (size : Int)), x5] ∧ PoolP (n + rs.length) p'
  have step : ∀ x rs ρ, J (x :: rs) ρ → ∃ ρ1 ρ2 d ρ3, asgT ⟨4, ds, cf, wf, []⟩ (.nm 5) x (clear ρ [5]) = some ρ1 ∧ evc ⟨4, ds, cf, wf, []⟩ .no ρ1 = .ok (.own (.bl true)) ρ2 ∧
      ev ⟨4, ds, cf, wf, []⟩ (.ix (.var 1) (.call j (.cons (.var 0) (.cons (.bi .len (.cons (.var 1) .nil)) .nil)))) .keep ρ2 = .ok (.own d) ρ3 ∧ gOk [] ρ3 = true ∧ (∃ c : Nat, d = .str ⟨#[c]⟩) ∧ J rs ρ3 := fun x rs ρ hJ => by
    obtain ⟨p1, x5, rfl, h2⟩ := hJ
    simp only [List.length_cons] at h2
    obtain ⟨r, p2, e, q, hr⟩ := hd (n + rs.length) p1 (z.length : Int) h2 (by omega) (by omega)
    have hr' : r < z.cps.size := by have h : r < z.length := by omega
                                    exact h
    have lz := enough hz
    refine ⟨_, _, .str ⟨#[z.cps[r]]⟩, [some (pd p2), some (.str z), x2, x3, some (.int (size : Int)), some x], rfl, rfl, ?_, rfl, ⟨_, rfl⟩, p2, _, rfl, q⟩
    simp [callF, hasSub, frzO, isDct, evd, keyOk, keyOk1, finF, exSs, exS, ev, evs, evo, evc, evi, R.bind, R.then, evVar, gt, fin, val, two, many, Opd.get, dIx, L2.atI, L2.ixN, only, D.fzn, fzns, dCmp, gets, dBi, dBin, dAug, dNeg, asgS, asgT, asgTs, put, mayAsg, subK, augK, retV, fins, dTru, dLen, owns, opnds, mmR, dMm, Mm.md, callR0, callR, noExc, takes, puts, isTys, isTy, items, seqItems, grdOf, gOk, Ct.lock, clear, back, clearOk, D.fz, fzs, dSl, bound, D.isNon, lcR, dEq, D.plain, plains, D.dep, deps, deq, deqs, dIn, (by decide : 1 ≤ sizeLine), (by decide : 2 ≤ sizeLine), (by decide : 3 ≤ sizeLine), (by decide : 4 ≤ sizeLine), (by decide : 5 ≤ sizeLine), (by decide : 6 ≤ sizeLine), e, lz, hr']
  obtain ⟨ys, ρ', h1, ⟨p', x5, rfl, q⟩, h3⟩ := lcL_all (gs := []) J (fun _ d => ∃ c : Nat, d = .str ⟨#[c]⟩) step (rngL 0 size) [some (pd p), some (.str z), x2, x3, some (.int (size : Int)), none] ⟨p, none, rfl, by rw [rngL_len]; exact hp⟩
  exact ⟨ys, p', lc_eq (by intro h; cases h) he rfl rfl h1, q, h3⟩
theorem word_s {T : List Fd} {wf k j i : Nat} (hT : T[i]? = some ⟨4, 6, b_word j⟩) (hd : DrawS (callF T wf k j)) : WordS (callF T wf (k + 1) i) := fun n p z least most hp h0 hz hl hm => by
  obtain ⟨r, p1, e, q, hr⟩ := hd (n + most) p ((most : Int) - least + 1) hp (by omega) (by omega)
  obtain ⟨sz, hsz⟩ : ∃ sz, sz = least + r := ⟨_, rfl⟩
  have hs : sz ≤ most := by omega
  obtain ⟨ys, p2, e2, q2, a⟩ := word_lc (wf := wf) (ds := [pd p, .str z, .int least, .int most]) (x2 := some (.int (least : Int))) (x3 := some (.int (most : Int))) (n := n) (size := sz) hd (q.mono (by omega)) h0 hz (by omega)
  obtain ⟨w, e3, l3⟩ := join_ok a (by rw [rngL_len]; omega)
  refine ⟨w, p2, ?_, q2, by rw [l3, rngL_len]; omega⟩
  have e4 : (least : Int) + (r : Int) = (sz : Int) := by omega
  simp [callF, hasSub, frzO, isDct, evd, keyOk, keyOk1, finF, exSs, exS, ev, evs, evo, evc, evi, R.bind, R.then, evVar, gt, fin, val, two, many, Opd.get, dIx, L2.atI, L2.ixN, only, D.fzn, fzns, dCmp, gets, dBi, dBin, dAug, dNeg, asgS, asgT, asgTs, put, mayAsg, subK, augK, retV, fins, dTru, dLen, owns, opnds, mmR, dMm, Mm.md, callR0, callR, noExc, takes, puts, isTys, isTy, items, seqItems, grdOf, gOk, Ct.lock, clear, back, clearOk, D.fz, fzs, dSl, bound, D.isNon, lcR, dEq, D.plain, plains, D.dep, deps, deq, deqs, dIn, (by decide : 1 ≤ sizeLine), (by decide : 2 ≤ sizeLine), (by decide : 3 ≤ sizeLine), (by decide : 4 ≤ sizeLine), (by decide : 5 ≤ sizeLine), (by decide : 6 ≤ sizeLine), hT, b_word, e, e4, e2, e3]

/-! ### column -/
theorem app_len (a b : Str) : (a ++ b).length = a.length + b.length := Array.size_append
def b_column (j i : Nat) : Ss := (.cons (.asg (.nm 1) (.cst (.str "ABCDEFGHIJKLMNOPQRSTUVWXYZ"))) (.cons (.asg (.nm 2) (.bin .add (.var 1) (.cst (.str "abcdefghijklmnopqrstuvwxyz0123456789")))) (.cons (.ret (.bin .add (.ix (.var 1) (.call j (.cons (.var 0) (.cons (.cst (.int 26)) .nil)))) (.call i (.cons (.var 0) (.cons (.var 2) (.cons (.cst (.int 0)) (.cons (.ix (.tup (.cons (.cst (.int 0)) (.cons (.cst (.int 1)) (.cons (.cst (.int 7)) .nil)))) (.call j (.cons (.var 0) (.cons (.cst (.int 3)) .nil)))) .nil))))))) .nil)))
def ColumnS (cf : List D → FR) : Prop := ∀ (n : Nat) (p : P3), PoolP (n + 20) p → ∃ (w : Str) (p' : P3), cf [pd p] = .ok (.str w) [pd p'] ∧ PoolP n p' ∧ 0 < w.length ∧ w.length ≤ 8
theorem column_s {T : List Fd} {wf k j i l : Nat} (hT : T[l]? = some ⟨1, 3, b_column j i⟩) (hd : DrawS (callF T wf k j)) (hw : WordS (callF T wf k i)) : ColumnS (callF T wf (k + 1) l) := fun n p hp => by
  obtain ⟨r, p1, e, q, hr⟩ := hd (n + 19) p 26 hp (by decide) (by decide)
  obtain ⟨r2, p2, e2, q2, hr2⟩ := hd (n + 18) p1 3 q (by decide) (by decide)
  obtain ⟨cap, hcap⟩ : ∃ z, z = Str.ofString "ABCDEFGHIJKLMNOPQRSTUVWXYZ" := ⟨_, rfl⟩
  obtain ⟨low, hlow⟩ : ∃ z, z = Str.ofString "abcdefghijklmnopqrstuvwxyz0123456789" := ⟨_, rfl⟩
  have l1 : cap.length = 26 := by rw [hcap]; kernel_rfl
  have l2 : low.length = 36 := by rw [hlow]; kernel_rfl
  have l3 : 26 ≤ sizeLine := by decide
  have l4 : 26 + 36 ≤ sizeLine := by decide
  have l5 : (cap ++ low).length = 62 := by rw [app_len, l1, l2]
  have hr' : r < cap.cps.size := by
    have h : r < cap.length := by rw [l1]; omega
    exact h
  obtain ⟨m, hm, hx⟩ : ∃ m : Nat, m ≤ 7 ∧ [D.int 0, D.int 1, D.int 7][r2]? = some (.int (m : Int)) := by
    have : r2 = 0 ∨ r2 = 1 ∨ r2 = 2 := by omega
    rcases this with h | h | h
    · exact ⟨0, by decide, by rw [h]; rfl⟩
    · exact ⟨1, by decide, by rw [h]; rfl⟩
    · exact ⟨7, by decide, by rw [h]; rfl⟩
  have hr3 : r2 < 3 := by omega
  obtain ⟨w, p3, e3, q3, hl⟩ := hw n p2 (cap ++ low) 0 m (q2.mono (by omega)) (by rw [l5]; decide) (by rw [l5]; decide) (Nat.zero_le _) (by omega)
  have l6 : (⟨#[cap.cps[r]]⟩ : Str).length + w.length ≤ sizeLine := enough (by show 1 + _ ≤ _; omega)
  refine ⟨⟨#[cap.cps[r]]⟩ ++ w, p3, ?_, q3, by rw [app_len]; show 0 < 1 + _; omega, by rw [app_len]; show 1 + _ ≤ _; omega⟩
  have hx' : L2.atI [D.int 0, D.int 1, D.int 7] (r2 : Int) = some (.int (m : Int)) := by
    simp only [L2.atI, L2.ixN]
    rw [if_pos (by omega), if_pos (by simp; omega)]
    exact hx
  have ex : dIx (.tup [.int 0, .int 1, .int 7]) (.int (r2 : Int)) = some (.int (m : Int)) := hx'
  have ec : dIx (.str cap) (.int (r : Int)) = some (.str ⟨#[cap.cps[r]]⟩) := by
    simp [dIx, l1, l3, L2.atI, L2.ixN, hr']
  have e3' : callF T wf k i [pd p2, .str (cap ++ low), .int 0, .int (m : Int)] = .ok (.str w) [pd p3, .str (cap ++ low), .int 0, .int (m : Int)] := e3
  simp [callF, hasSub, frzO, isDct, evd, keyOk, keyOk1, finF, exSs, exS, ev, evs, evo, evc, evi, R.bind, R.then, evVar, gt, fin, val, two, many, Opd.get, only, D.fzn, fzns, dCmp, gets, dBi, dBin, dAug, dNeg, asgS, asgT, asgTs, put, mayAsg, subK, augK, retV, fins, dTru, dLen, owns, opnds, mmR, dMm, Mm.md, callR0, callR, noExc, takes, puts, isTys, isTy, items, seqItems, grdOf, gOk, Ct.lock, clear, back, clearOk, D.fz, fzs, dSl, bound, D.isNon, lcR, dEq, D.plain, plains, D.dep, deps, deq, deqs, dIn, (by decide : 1 ≤ sizeLine), (by decide : 2 ≤ sizeLine), (by decide : 3 ≤ sizeLine), (by decide : 4 ≤ sizeLine), (by decide : 5 ≤ sizeLine), (by decide : 6 ≤ sizeLine), hT, b_column, ← hcap, ← hlow, e, e2, e3', l1, l2, l3, l4, l5, l6, ex, ec]
end Aw

set_option Elab.async false
set_option linter.all false
set_option maxRecDepth 100000
set_option maxHeartbeats 4000000
/-! Ls: slots. -/
namespace Aw
open PySem
def e_rows : E := .lc [8] (.nm 8) (.rng (.cons (.cst (.int 6)) .nil)) .no (.bin .add (.var 4) (.ix (.cst (.str "abcdefghijklmnopqrstuvwxyz0123456789")) (.bin .add (.var 5) (.var 8))))
def e_pairs (c : Nat) : E := .lc [9] (.nm 9) (.e (.var 6)) .no (.tup (.cons (.var c) (.cons (.var 9) .nil)))
def t_slots (o : Nat) : Ss := (.cons (.asg (.nm 7) (.bin .add (e_pairs 2) (e_pairs 3))) (.cons (.ret (.sl (.call o (.cons (.var 0) (.cons (.var 7) .nil))) .no (.yes (.var 1)))) .nil))
def b_slots (j w c o : Nat) : Ss := (.cons (.asg (.nm 2) (.call c (.cons (.var 0) .nil))) (.cons (.asg (.nm 3) (.bin .add (.ix (.cst (.str "BA")) (.cmp .eq (.ix (.var 2) (.cst (.int 0))) (.cst (.str "B")))) (.call w (.cons (.var 0) (.cons (.cst (.str "aZ09")) (.cons (.cst (.int 0)) (.cons (.cst (.int 2)) .nil))))))) (.cons (.asg (.nm 4) (.call w (.cons (.var 0) (.cons (.cst (.str "abcdefghijklmnopqrstuvwxyz0123456789")) (.cons (.cst (.int 0)) (.cons (.cst (.int 7)) .nil)))))) (.cons (.asg (.nm 5) (.call j (.cons (.var 0) (.cons (.cst (.int 30)) .nil)))) (.cons (.asg (.nm 6) e_rows) (.cons (.iff (.cmp .eq (.var 2) (.var 3)) (.cons (.asg (.nm 3) (.cst (.str "C"))) .nil) .nil) (t_slots o)))))))
def IsStr (d : D) : Prop := ∃ u : Str, d = .str u
def Slot (d : D) : Prop := ∃ u v : Str, d = .tup [.str u, .str v]
def SlotsS (cf : List D → FR) : Prop := ∀ (n : Nat) (p : P3) (mny : Nat), PoolP (n + 60) p → 1 ≤ mny → mny ≤ 1000 → ∃ (ys : List D) (p' : P3), cf [pd p, .int (mny : Int)] = .ok (.lst false ys) [pd p', .int (mny : Int)] ∧ PoolP n p' ∧ 0 < ys.length ∧ ys.length ≤ 12 ∧ (∀ y ∈ ys, Slot y) ∧ ys.length = min mny 12
theorem rows_lc {ds : List D} {cf : Nat → List D → FR} {wf begin : Nat} {x0 x1 x2 x3 x6 x7 x9 : Option D} {stem : Str} (hs : stem.length ≤ 100) (hb : begin < 30) :
    ∃ rs, ev ⟨2, ds, cf, wf, []⟩ e_rows .keep [x0, x1, x2, x3, some (.str stem), some (.int (begin : Int)), x6, x7, none, x9] = .ok (.own (.lst false rs)) [x0, x1, x2, x3, some (.str stem), some (.int (begin : Int)), x6, x7, none, x9] ∧ rs.length = 6 ∧ ∀ r ∈ rs, IsStr r := by
  have he : evi ⟨2, ds, cf, wf, []⟩ (.rng (.cons (.cst (.int 6)) .nil)) [x0, x1, x2, x3, some (.str stem), some (.int (begin : Int)), x6, x7, none, x9] = .ok (rngL 0 6, []) [x0, x1, x2, x3, some (.str stem), some (.int (begin : Int)), x6, x7, none, x9] := by
    simp [callF, hasSub, frzO, isDct, evd, keyOk, keyOk1, finF, exSs, exS, ev, evs, evo, evc, evi, R.bind, R.then, evVar, gt, fin, val, two, many, Opd.get, dIx, L2.atI, L2.ixN, only, D.fzn, fzns, dCmp, gets, dBi, dBin, dAug, dNeg, asgS, asgT, asgTs, put, mayAsg, subK, augK, retV, fins, dTru, dLen, owns, opnds, mmR, dMm, Mm.md, callR0, callR, noExc, takes, puts, isTys, isTy, items, seqItems, grdOf, gOk, Ct.lock, clear, back, clearOk, D.fz, fzs, dSl, bound, D.isNon, lcR, dEq, D.plain, plains, D.dep, deps, deq, deqs, dIn, (by decide : 1 ≤ sizeLine), (by decide : 2 ≤ sizeLine), (by decide : 3 ≤ sizeLine), (by decide : 4 ≤ sizeLine), (by decide : 5 ≤ sizeLine), (by decide : 6 ≤ sizeLine), show dRng [.int 6] = some (rngL 0 6) from rng1 (n := 6) (by decide)]
  obtain ⟨low, hlow⟩ : ∃ z, z = Str.ofString "abcdefghijklmnopqrstuvwxyz0123456789" := ⟨_, rfl⟩
  have l2 : low.length = 36 := by rw [hlow]; kernel_rfl
  have l3 : 36 ≤ sizeLine := by decide
  let J : List D → Env → Prop := fun rs ρ => ∃ (x8 : Option D) (i : Nat), ρ = [x0, x1, x2, x3, some (.str stem), some (.int (begin : Int)), x6, x7, x8, x9] ∧ rs = (rngL 0 6).drop i
  have step : ∀ x rs ρ, J (x :: rs) ρ → ∃ ρ1 ρ2 d ρ3, asgT ⟨2, ds, cf, wf, []⟩ (.nm 8) x (clear ρ [8]) = some ρ1 ∧ evc ⟨2, ds, cf, wf, []⟩ .no ρ1 = .ok (.own (.bl true)) ρ2 ∧
      ev ⟨2, ds, cf, wf, []⟩ (.bin .add (.var 4) (.ix (.cst (.str "abcdefghijklmnopqrstuvwxyz0123456789")) (.bin .add (.var 5) (.var 8)))) .keep ρ2 = .ok (.own d) ρ3 ∧ gOk [] ρ3 = true ∧ IsStr d ∧ J rs ρ3 := fun x rs ρ hJ => by
    obtain ⟨x8, i, rfl, h2⟩ := hJ
    have hi : i < 6 := by
      have z := congrArg List.length h2
      simp [rngL_len] at z
      omega
    have hx : x = .int ((i : Nat) : Int) ∧ rs = (rngL 0 6).drop (i + 1) := by
      rw [List.drop_eq_getElem_cons (by rw [rngL_len]; exact hi)] at h2
      simp only [List.cons.injEq] at h2
      exact ⟨by rw [h2.1]; simp [rngL], h2.2⟩
    obtain ⟨rfl, hrs⟩ := hx
    have hq : begin + i < low.cps.size := by
      have h : begin + i < low.length := by rw [l2]; omega
      exact h
    have ec : dIx (.str low) (.int ((begin : Int) + (i : Int))) = some (.str ⟨#[low.cps[begin + i]]⟩) := by
      obtain ⟨k, hk⟩ : ∃ k, k = begin + i := ⟨_, rfl⟩
      have e0 : (begin : Int) + (i : Int) = (k : Int) := by omega
      rw [e0]
      have hk' : k < low.cps.size := by rw [hk]; exact hq
      simp [dIx, l2, l3, L2.atI, L2.ixN, hk', ← hk]
    have l6 : stem.length + (⟨#[low.cps[begin + i]]⟩ : Str).length ≤ sizeLine := enough (by show _ + 1 ≤ _; omega)
    refine ⟨_, _, .str (stem ++ ⟨#[low.cps[begin + i]]⟩), [x0, x1, x2, x3, some (.str stem), some (.int (begin : Int)), x6, x7, some (.int (i : Int)), x9], rfl, rfl, ?_, rfl, ⟨_, rfl⟩, _, i + 1, rfl, hrs⟩
    simp [callF, hasSub, frzO, isDct, evd, keyOk, keyOk1, finF, exSs, exS, ev, evs, evo, evc, evi, R.bind, R.then, evVar, gt, fin, val, two, many, Opd.get, only, D.fzn, fzns, dCmp, gets, dBi, dBin, dAug, dNeg, asgS, asgT, asgTs, put, mayAsg, subK, augK, retV, fins, dTru, dLen, owns, opnds, mmR, dMm, Mm.md, callR0, callR, noExc, takes, puts, isTys, isTy, items, seqItems, grdOf, gOk, Ct.lock, clear, back, clearOk, D.fz, fzs, dSl, bound, D.isNon, lcR, dEq, D.plain, plains, D.dep, deps, deq, deqs, dIn, (by decide : 1 ≤ sizeLine), (by decide : 2 ≤ sizeLine), (by decide : 3 ≤ sizeLine), (by decide : 4 ≤ sizeLine), (by decide : 5 ≤ sizeLine), (by decide : 6 ≤ sizeLine), ← hlow, ec, l6]
  obtain ⟨rs, ρ', h1, ⟨x8, i, rfl, q⟩, h3⟩ := lcL_all (gs := []) J (fun _ d => IsStr d) step (rngL 0 6) [x0, x1, x2, x3, some (.str stem), some (.int (begin : Int)), x6, x7, none, x9] ⟨none, 0, rfl, rfl⟩
  refine ⟨rs, lc_eq (by intro h; cases h) he rfl rfl h1, by rw [← h3.len]; exact rngL_len _ _, All2.right h3⟩
theorem pairs_lc {ds : List D} {cf : Nat → List D → FR} {wf c : Nat} {ρ0 : Env} {x0 x1 x2 x3 x4 x5 x7 x8 : Option D} {u : Str} {rs : List D} (hc : c < 4) (hu : ρ0 = [x0, x1, x2, x3, x4, x5, some (.lst false rs), x7, x8, none]) (hx : ρ0[c]? = some (some (.str u))) (hr : ∀ r ∈ rs, IsStr r) :
    ∃ ys, ev ⟨2, ds, cf, wf, []⟩ (e_pairs c) .read ρ0 = .ok (.own (.lst false ys)) ρ0 ∧ ys.length = rs.length ∧ ∀ y ∈ ys, Slot y := by
  subst hu
  have zr : fzns rs = true := (fzns_iff rs).mpr fun r m => by obtain ⟨u, rfl⟩ := hr r m; rfl
  have he : evi ⟨2, ds, cf, wf, []⟩ (.e (.var 6)) [x0, x1, x2, x3, x4, x5, some (.lst false rs), x7, x8, none] = .ok (rs, [(6, .lst false rs)]) [x0, x1, x2, x3, x4, x5, some (.lst false rs), x7, x8, none] := by
    simp [callF, hasSub, frzO, isDct, evd, keyOk, keyOk1, finF, exSs, exS, ev, evs, evo, evc, evi, R.bind, R.then, evVar, gt, fin, val, two, many, Opd.get, dIx, L2.atI, L2.ixN, only, D.fzn, fzns, dCmp, gets, dBi, dBin, dAug, dNeg, asgS, asgT, asgTs, put, mayAsg, subK, augK, retV, fins, dTru, dLen, owns, opnds, mmR, dMm, Mm.md, callR0, callR, noExc, takes, puts, isTys, isTy, items, seqItems, grdOf, gOk, Ct.lock, clear, back, clearOk, D.fz, fzs, dSl, bound, D.isNon, lcR, dEq, D.plain, plains, D.dep, deps, deq, deqs, dIn, (by decide : 1 ≤ sizeLine), (by decide : 2 ≤ sizeLine), (by decide : 3 ≤ sizeLine), (by decide : 4 ≤ sizeLine), (by decide : 5 ≤ sizeLine), (by decide : 6 ≤ sizeLine), zr]
  have sm : (D.lst false rs).same (.lst false rs) = true := same_refl _
  let J : List D → Env → Prop := fun ks ρ => ∃ (x9 : Option D), ρ = [x0, x1, x2, x3, x4, x5, some (.lst false rs), x7, x8, x9] ∧ ∀ k ∈ ks, IsStr k
  have step : ∀ x ks ρ, J (x :: ks) ρ → ∃ ρ1 ρ2 d ρ3, asgT (Ct.lock ⟨2, ds, cf, wf, []⟩ [(6, .lst false rs)]) (.nm 9) x (clear ρ [9]) = some ρ1 ∧ evc (Ct.lock ⟨2, ds, cf, wf, []⟩ [(6, .lst false rs)]) .no ρ1 = .ok (.own (.bl true)) ρ2 ∧
      ev (Ct.lock ⟨2, ds, cf, wf, []⟩ [(6, .lst false rs)]) (.tup (.cons (.var c) (.cons (.var 9) .nil))) .keep ρ2 = .ok (.own d) ρ3 ∧ gOk [(6, .lst false rs)] ρ3 = true ∧ Slot d ∧ J ks ρ3 := fun x ks ρ hJ => by
    obtain ⟨x9, rfl, h2⟩ := hJ
    obtain ⟨v, rfl⟩ := h2 x List.mem_cons_self
    refine ⟨_, _, .tup [.str u, .str v], [x0, x1, x2, x3, x4, x5, some (.lst false rs), x7, x8, some (.str v)], rfl, rfl, ?_, ?_, ⟨u, v, rfl⟩, _, rfl, fun k m => h2 k (List.mem_cons_of_mem _ m)⟩
    · have : c = 0 ∨ c = 1 ∨ c = 2 ∨ c = 3 := by omega
      rcases this with h | h | h | h <;> subst h <;> simp at hx <;> subst hx <;> simp [callF, hasSub, frzO, isDct, evd, keyOk, keyOk1, finF, exSs, exS, ev, evs, evo, evc, evi, R.bind, R.then, evVar, gt, fin, val, two, many, Opd.get, dIx, L2.atI, L2.ixN, only, D.fzn, fzns, dCmp, gets, dBi, dBin, dAug, dNeg, asgS, asgT, asgTs, put, mayAsg, subK, augK, retV, fins, dTru, dLen, owns, opnds, mmR, dMm, Mm.md, callR0, callR, noExc, takes, puts, isTys, isTy, items, seqItems, grdOf, gOk, Ct.lock, clear, back, clearOk, D.fz, fzs, dSl, bound, D.isNon, lcR, dEq, D.plain, plains, D.dep, deps, deq, deqs, dIn, (by decide : 1 ≤ sizeLine), (by decide : 2 ≤ sizeLine), (by decide : 3 ≤ sizeLine), (by decide : 4 ≤ sizeLine), (by decide : 5 ≤ sizeLine), (by decide : 6 ≤ sizeLine)]
    · simp [callF, hasSub, frzO, isDct, evd, keyOk, keyOk1, finF, exSs, exS, ev, evs, evo, evc, evi, R.bind, R.then, evVar, gt, fin, val, two, many, Opd.get, dIx, L2.atI, L2.ixN, only, D.fzn, fzns, dCmp, gets, dBi, dBin, dAug, dNeg, asgS, asgT, asgTs, put, mayAsg, subK, augK, retV, fins, dTru, dLen, owns, opnds, mmR, dMm, Mm.md, callR0, callR, noExc, takes, puts, isTys, isTy, items, seqItems, grdOf, gOk, Ct.lock, clear, back, clearOk, D.fz, fzs, dSl, bound, D.isNon, lcR, dEq, D.plain, plains, D.dep, deps, deq, deqs, dIn, (by decide : 1 ≤ sizeLine), (by decide : 2 ≤ sizeLine), (by decide : 3 ≤ sizeLine), (by decide : 4 ≤ sizeLine), (by decide : 5 ≤ sizeLine), (by decide : 6 ≤ sizeLine), sm]
  obtain ⟨ys, ρ', h1, ⟨x9, rfl, q⟩, h3⟩ := lcL_all (gs := [(6, .lst false rs)]) J (fun _ d => Slot d) step rs _ ⟨none, rfl, hr⟩
  refine ⟨ys, lc_eq (by intro h; cases h) he rfl (by simp [callF, hasSub, frzO, isDct, evd, keyOk, keyOk1, finF, exSs, exS, ev, evs, evo, evc, evi, R.bind, R.then, evVar, gt, fin, val, two, many, Opd.get, dIx, L2.atI, L2.ixN, only, D.fzn, fzns, dCmp, gets, dBi, dBin, dAug, dNeg, asgS, asgT, asgTs, put, mayAsg, subK, augK, retV, fins, dTru, dLen, owns, opnds, mmR, dMm, Mm.md, callR0, callR, noExc, takes, puts, isTys, isTy, items, seqItems, grdOf, gOk, Ct.lock, clear, back, clearOk, D.fz, fzs, dSl, bound, D.isNon, lcR, dEq, D.plain, plains, D.dep, deps, deq, deqs, dIn, (by decide : 1 ≤ sizeLine), (by decide : 2 ≤ sizeLine), (by decide : 3 ≤ sizeLine), (by decide : 4 ≤ sizeLine), (by decide : 5 ≤ sizeLine), (by decide : 6 ≤ sizeLine), sm]) h1, h3.len.symm, All2.right h3⟩
theorem slots_s {T : List Fd} {wf k j w c o l : Nat} (hT : T[l]? = some ⟨2, 10, b_slots j w c o⟩) (hd : DrawS (callF T wf k j)) (hw : WordS (callF T wf k w)) (hc : ColumnS (callF T wf k c)) (ho : OrderS (callF T wf k o)) : SlotsS (callF T wf (k + 1) l) := fun n p mny hp hm1 hm2 => by
  obtain ⟨col, p1, e1, q1, c1, c2⟩ := hc (n + 40) p hp
  have f1 : (Str.ofString "aZ09").length = 4 := by kernel_rfl
  obtain ⟨w1, p2, e2, q2, l2⟩ := hw (n + 30) p1 (Str.ofString "aZ09") 0 2 (q1.mono (by omega)) (by rw [f1]; decide) (by rw [f1]; decide) (by decide) (by decide)
  obtain ⟨low, hlow⟩ : ∃ z, z = Str.ofString "abcdefghijklmnopqrstuvwxyz0123456789" := ⟨_, rfl⟩
  have f2 : low.length = 36 := by rw [hlow]; kernel_rfl
  obtain ⟨stem, p3, e3, q3, l3⟩ := hw (n + 20) p2 low 0 7 (q2.mono (by omega)) (by rw [f2]; decide) (by rw [f2]; decide) (by decide) (by decide)
  obtain ⟨r, p4, e4, q4, hr⟩ := hd (n + 12) p3 30 (q3.mono (by omega)) (by decide) (by decide)
  have hcol : 0 < col.cps.size := c1
  have hcz : col.length ≤ sizeLine := enough (by omega)
  have ec : dIx (.str col) (.int 0) = some (.str ⟨#[col.cps[0]]⟩) := by
    simp [dIx, hcz, L2.atI, L2.ixN, hcol]
  obtain ⟨b, hb⟩ : ∃ b, b = ((⟨#[col.cps[0]]⟩ : Str) == Str.ofString "B") := ⟨_, rfl⟩
  obtain ⟨BA, hBA⟩ : ∃ z, z = Str.ofString "BA" := ⟨_, rfl⟩
  have f3 : BA.length = 2 := by rw [hBA]; kernel_rfl
  have f3' : BA.cps.size = 2 := f3
  have f4 : 2 ≤ sizeLine := by decide
  obtain ⟨z, ez, lz⟩ : ∃ z : Str, dIx (.str BA) (.bl b) = some (.str z) ∧ z.length = 1 := by
    cases b with
    | true => exact ⟨⟨#[BA.cps[1]]⟩, by simp [dIx, f3, f4, L2.atI, L2.ixN, f3'], rfl⟩
    | false => exact ⟨⟨#[BA.cps[0]]⟩, by simp [dIx, f3, f4, L2.atI, L2.ixN, f3'], rfl⟩
  have l4 : z.length + w1.length ≤ sizeLine := enough (by omega)
  obtain ⟨rs, e5, l5, hrs⟩ := rows_lc (ds := [pd p, .int (mny : Int)]) (cf := callF T wf k) (wf := wf) (begin := r) (x0 := some (pd p4)) (x1 := some (.int (mny : Int))) (x2 := some (.str col)) (x3 := some (.str (z ++ w1))) (x6 := none) (x7 := none) (x9 := none) (stem := stem) (by omega) (by omega)
  have main : ∀ oth : Str, ∃ (ys : List D) (p' : P3) (ρ' : Env), exSs ⟨2, [pd p, .int (mny : Int)], callF T wf k, wf, []⟩ (t_slots o)
      [some (pd p4), some (.int (mny : Int)), some (.str col), some (.str oth), some (.str stem), some (.int (r : Int)), some (.lst false rs), none, none, none] = .rt (.lst false ys) (some (pd p') :: some (.int (mny : Int)) :: ρ') ∧ PoolP n p' ∧ 0 < ys.length ∧ ys.length ≤ 12 ∧ (∀ y ∈ ys, Slot y) ∧ ys.length = min mny 12 := fun oth => by
    obtain ⟨y1, g1, m1, s1⟩ := pairs_lc (ds := [pd p, .int (mny : Int)]) (cf := callF T wf k) (wf := wf) (c := 2) (u := col) (by decide) (rfl : _ = [some (pd p4), some (.int (mny : Int)), some (.str col), some (.str oth), some (.str stem), some (.int (r : Int)), some (.lst false rs), none, none, none]) rfl hrs
    obtain ⟨y2, g2, m2, s2⟩ := pairs_lc (ds := [pd p, .int (mny : Int)]) (cf := callF T wf k) (wf := wf) (c := 3) (u := oth) (by decide) (rfl : _ = [some (pd p4), some (.int (mny : Int)), some (.str col), some (.str oth), some (.str stem), some (.int (r : Int)), some (.lst false rs), none, none, none]) rfl hrs
    have sl : ∀ y ∈ y1 ++ y2, Slot y := fun y m => (List.mem_append.mp m).elim (s1 y) (s2 y)
    have zz : ∀ {l : List D}, (∀ y ∈ l, Slot y) → fzns l = true := fun h => (fzns_iff _).mpr fun y m => by obtain ⟨u, v, rfl⟩ := h y m; rfl
    have le : (y1 ++ y2).length = 12 := by rw [List.length_append, m1, m2, l5]
    obtain ⟨ys, p5, e6, q5, l6, s6⟩ := ho n p4 (y1 ++ y2) (by rw [le]; exact q4) (zz sl) (by rw [le]; decide)
    have sy : ∀ y ∈ ys, Slot y := fun y m => sl y (s6 y m)
    have l7 : y1.length + y2.length ≤ sizeLine := enough (by omega)
    refine ⟨ys.take mny, p5, [some (.str col), some (.str oth), some (.str stem), some (.int (r : Int)), some (.lst false rs), some (.lst false (y1 ++ y2)), none, none], ?_, q5, ?_, ?_, fun y m => sy y (List.mem_of_mem_take m), by rw [List.length_take, l6, le]⟩
    · simp [callF, hasSub, frzO, isDct, evd, keyOk, keyOk1, finF, exSs, exS, ev, evs, evo, evc, evi, R.bind, R.then, evVar, gt, fin, val, two, many, Opd.get, only, D.fzn, fzns, dCmp, gets, dBi, dBin, dAug, dNeg, asgS, asgT, asgTs, put, mayAsg, subK, augK, retV, fins, dTru, dLen, owns, opnds, mmR, dMm, Mm.md, callR0, callR, noExc, takes, puts, isTys, isTy, items, seqItems, grdOf, gOk, Ct.lock, clear, back, clearOk, D.fz, fzs, dSl, bound, D.isNon, lcR, dEq, D.plain, plains, D.dep, deps, deq, deqs, dIn, (by decide : 1 ≤ sizeLine), (by decide : 2 ≤ sizeLine), (by decide : 3 ≤ sizeLine), (by decide : 4 ≤ sizeLine), (by decide : 5 ≤ sizeLine), (by decide : 6 ≤ sizeLine), t_slots, g1, g2, zz s1, zz s2, l7, e6, cut_take, zz sy]
    · rw [List.length_take, l6, le]; omega
    · rw [List.length_take, l6, le]; omega
  have e3' : callF T wf k w [pd p2, .str low, .int 0, .int 7] = .ok (.str stem) [pd p3, .str low, .int 0, .int 7] := e3
  have e2' : callF T wf k w [pd p1, .str (Str.ofString "aZ09"), .int 0, .int 2] = .ok (.str w1) [pd p2, .str (Str.ofString "aZ09"), .int 0, .int 2] := e2
  have hdq : (col == z ++ w1) = true ∨ (col == z ++ w1) = false := by cases (col == z ++ w1) <;> simp
  rcases hdq with h | h
  · obtain ⟨ys, p5, ρ', e6, q5, l6, l7, s6⟩ := main (Str.ofString "C")
    refine ⟨ys, p5, ?_, q5, l6, l7, s6⟩
    simp [callF, hasSub, frzO, isDct, evd, keyOk, keyOk1, finF, exSs, exS, ev, evs, evo, evc, evi, R.bind, R.then, evVar, gt, fin, val, two, many, Opd.get, only, D.fzn, fzns, dCmp, gets, dBi, dBin, dAug, dNeg, asgS, asgT, asgTs, put, mayAsg, subK, augK, retV, fins, dTru, dLen, owns, opnds, mmR, dMm, Mm.md, callR0, callR, noExc, takes, puts, isTys, isTy, items, seqItems, grdOf, gOk, Ct.lock, clear, back, clearOk, D.fz, fzs, dSl, bound, D.isNon, lcR, dEq, D.plain, plains, D.dep, deps, deq, deqs, dIn, (by decide : 1 ≤ sizeLine), (by decide : 2 ≤ sizeLine), (by decide : 3 ≤ sizeLine), (by decide : 4 ≤ sizeLine), (by decide : 5 ≤ sizeLine), (by decide : 6 ≤ sizeLine), hT, b_slots, ← hlow, ← hBA, e1, e2', e3', e4, e5, ec, ← hb, ez, l4, h, e6]
  · obtain ⟨ys, p5, ρ', e6, q5, l6, l7, s6⟩ := main (z ++ w1)
    refine ⟨ys, p5, ?_, q5, l6, l7, s6⟩
    simp [callF, hasSub, frzO, isDct, evd, keyOk, keyOk1, finF, exSs, exS, ev, evs, evo, evc, evi, R.bind, R.then, evVar, gt, fin, val, two, many, Opd.get, only, D.fzn, fzns, dCmp, gets, dBi, dBin, dAug, dNeg, asgS, asgT, asgTs, put, mayAsg, subK, augK, retV, fins, dTru, dLen, owns, opnds, mmR, dMm, Mm.md, callR0, callR, noExc, takes, puts, isTys, isTy, items, seqItems, grdOf, gOk, Ct.lock, clear, back, clearOk, D.fz, fzs, dSl, bound, D.isNon, lcR, dEq, D.plain, plains, D.dep, deps, deq, deqs, dIn, (by decide : 1 ≤ sizeLine), (by decide : 2 ≤ sizeLine), (by decide : 3 ≤ sizeLine), (by decide : 4 ≤ sizeLine), (by decide : 5 ≤ sizeLine), (by decide : 6 ≤ sizeLine), hT, b_slots, ← hlow, ← hBA, e1, e2', e3', e4, e5, ec, ← hb, ez, l4, h, e6]
end Aw

set_option Elab.async false
set_option linter.all false
set_option maxRecDepth 100000
set_option maxHeartbeats 4000000
/-! Lt: statement, deal. -/
namespace Aw
open PySem
def b_stmtB (j : Nat) : Ss := (.cons (.asg (.nm 5) (.ix (.tup (.cons (.cst (.str "read")) (.cons (.cst (.str "write")) (.cons (.cst (.str "hold")) (.cons (.cst (.str "add")) .nil))))) (.call j (.cons (.var 0) (.cons (.cst (.int 4)) .nil))))) (.cons (.asg (.nm 6) (.ix (.var 1) (.call j (.cons (.var 0) (.cons (.bi .len (.cons (.var 1) .nil)) .nil))))) (.cons (.asg (.nm 7) (.ite (.cmp .eq (.var 5) (.cst (.str "read"))) (.cst (.str "hold")) (.ite (.cmp .eq (.var 5) (.cst (.str "hold"))) (.cst (.str "read")) (.var 5)))) (.cons (.iff (.bop true (.cmp .notIn (.bin .add (.tup (.cons (.var 5) .nil)) (.var 6)) (.var 3)) (.cmp .notIn (.bin .add (.tup (.cons (.var 7) .nil)) (.var 6)) (.var 3))) (.cons (.ex (.mm .append 3 (.cons (.bin .add (.tup (.cons (.var 5) .nil)) (.var 6)) .nil))) .nil) .nil) .nil))))
def s_stmt (j : Nat) : S := .forr (.nm 4) (.rng (.cons (.bin .add (.cst (.int 1)) (.call j (.cons (.var 0) (.cons (.var 2) .nil)))) .nil)) (b_stmtB j)
def b_stmt (j : Nat) : Ss := (.cons (.asg (.nm 3) (.lst .nil)) (.cons (s_stmt j) (.cons (.ret (.bi .tuple (.cons (.var 3) .nil))) .nil)))
def Knd (z : Str) : Prop := z = Str.ofString "read" ∨ z = Str.ofString "write" ∨ z = Str.ofString "hold" ∨ z = Str.ofString "add"
def Stp (d : D) : Prop := ∃ k u v : Str, Knd k ∧ d = .tup [.str k, .str u, .str v]
def Stm (d : D) : Prop := ∃ xs, d = .tup xs ∧ xs.length ≤ 30 ∧ ∀ x ∈ xs, Stp x
theorem stp_fz {xs : List D} (h : ∀ x ∈ xs, Stp x) : fzns xs = true := (fzns_iff _).mpr fun x m => by obtain ⟨k, u, v, _, rfl⟩ := h x m; rfl
theorem plains_iff : ∀ xs : List D, plains xs = true ↔ ∀ x ∈ xs, x.plain = true
  | [] => by simp [plains]
  | x :: xs => by simp [plains, plains_iff xs]
theorem stp_pl {xs : List D} (h : ∀ x ∈ xs, Stp x) : plains xs = true := (plains_iff _).mpr fun x m => by obtain ⟨k, u, v, _, rfl⟩ := h x m; rfl
theorem slot_fz {xs : List D} (h : ∀ x ∈ xs, Slot x) : fzns xs = true := (fzns_iff _).mpr fun x m => by obtain ⟨u, v, rfl⟩ := h x m; rfl
/-- statement(pool, slots, most): at most 1 + most draws of three -/
def StmtS (cf : List D → FR) : Prop := ∀ (n : Nat) (p : P3) (sl : List D) (most : Nat), PoolP (n + 50) p → 0 < sl.length → sl.length ≤ 1000 → (∀ x ∈ sl, Slot x) → 1 ≤ most → most ≤ 10 →
  ∃ (d : D) (p' : P3), cf [pd p, .lst false sl, .int (most : Int)] = .ok d [pd p', .lst false sl, .int (most : Int)] ∧ PoolP n p' ∧ Stm d
theorem stmtB {j wf n : Nat} {cf : Nat → List D → FR} {ds0 : D} (hd : DrawS (cf j)) {sl some3 : List D} {x2 x4 x5 x6 x7 : Option D} {p : P3} (hp : PoolP (n + 2) p) (h0 : 0 < sl.length) (hl : sl.length ≤ 1000) (hs : ∀ x ∈ sl, Slot x) (h3 : some3.length ≤ 500) (hx : ∀ x ∈ some3, Stp x) {mst : D} :
    ∃ p' s' y5 y6 y7, exSs ⟨3, [ds0, .lst false sl, mst], cf, wf, []⟩ (b_stmtB j) [some (pd p), some (.lst false sl), x2, some (.lst false some3), x4, x5, x6, x7] = .nx [some (pd p'), some (.lst false sl), x2, some (.lst false s'), x4, y5, y6, y7] ∧
      PoolP n p' ∧ s'.length ≤ some3.length + 1 ∧ ∀ x ∈ s', Stp x := by
  obtain ⟨r, p1, e1, q1, hr⟩ := hd (n + 1) p 4 hp (by decide) (by decide)
  obtain ⟨r2, p2, e2, q2, hr2⟩ := hd n p1 (sl.length : Int) q1 (by omega) (by omega)
  have hr2' : r2 < sl.length := by omega
  obtain ⟨u, v, hsl⟩ := hs _ (List.getElem_mem hr2')
  obtain ⟨kd, kk, ek⟩ : ∃ kd : Str, Knd kd ∧ dIx (.tup [.str "read", .str "write", .str "hold", .str "add"]) (.int (r : Int)) = some (.str kd) := by
    have : r = 0 ∨ r = 1 ∨ r = 2 ∨ r = 3 := by omega
    rcases this with h | h | h | h <;> subst h
    · exact ⟨_, .inl rfl, rfl⟩
    · exact ⟨_, .inr (.inl rfl), rfl⟩
    · exact ⟨_, .inr (.inr (.inl rfl)), rfl⟩
    · exact ⟨_, .inr (.inr (.inr rfl)), rfl⟩
  have es : dIx (.lst false sl) (.int (r2 : Int)) = some (.tup [.str u, .str v]) := by
    simp [dIx, L2.atI, L2.ixN, hr2', hsl]
  have zp := stp_pl hx
  have zf := stp_fz hx
  have l3 : some3.length < sizeLine := Nat.lt_of_le_of_lt h3 (by decide)
  obtain ⟨b1, hb1⟩ : ∃ b, b = (kd == Str.ofString "read") := ⟨_, rfl⟩
  obtain ⟨b2, hb2⟩ : ∃ b, b = (kd == Str.ofString "hold") := ⟨_, rfl⟩
  obtain ⟨ot, hot⟩ : ∃ o : Str, o = if b1 then Str.ofString "hold" else if b2 then Str.ofString "read" else kd := ⟨_, rfl⟩
  obtain ⟨c1, hc1⟩ : ∃ b : Bool, b = some3.any fun y => deq y (.tup [.str kd, .str u, .str v]) := ⟨_, rfl⟩
  obtain ⟨c2, hc2⟩ : ∃ b : Bool, b = some3.any fun y => deq y (.tup [.str ot, .str u, .str v]) := ⟨_, rfl⟩
  have i1 : dIn (.tup [.str kd, .str u, .str v]) (.lst false some3) = some c1 := by simp [dIn, D.plain, plains, zp, D.dep, deps, hc1]
  have i2 : dIn (.tup [.str ot, .str u, .str v]) (.lst false some3) = some c2 := by simp [dIn, D.plain, plains, zp, D.dep, deps, hc2]
  have conc : ∀ y6 y7, (c1 = false ∧ c2 = false → exSs ⟨3, [ds0, .lst false sl, mst], cf, wf, []⟩ (b_stmtB j) [some (pd p), some (.lst false sl), x2, some (.lst false some3), x4, x5, x6, x7] = .nx [some (pd p2), some (.lst false sl), x2, some (.lst false (some3 ++ [.tup [.str kd, .str u, .str v]])), x4, some (.str kd), y6, y7]) →
      (¬ (c1 = false ∧ c2 = false) → exSs ⟨3, [ds0, .lst false sl, mst], cf, wf, []⟩ (b_stmtB j) [some (pd p), some (.lst false sl), x2, some (.lst false some3), x4, x5, x6, x7] = .nx [some (pd p2), some (.lst false sl), x2, some (.lst false some3), x4, some (.str kd), y6, y7]) →
      ∃ p' s' y5 y6 y7, exSs ⟨3, [ds0, .lst false sl, mst], cf, wf, []⟩ (b_stmtB j) [some (pd p), some (.lst false sl), x2, some (.lst false some3), x4, x5, x6, x7] = .nx [some (pd p'), some (.lst false sl), x2, some (.lst false s'), x4, y5, y6, y7] ∧
      PoolP n p' ∧ s'.length ≤ some3.length + 1 ∧ ∀ x ∈ s', Stp x := fun y6 y7 f1 f2 => by
    by_cases h : c1 = false ∧ c2 = false
    · exact ⟨p2, _, _, _, _, f1 h, q2, by simp, fun x m => (List.mem_append.mp m).elim (hx x) fun m => by rw [List.mem_singleton.mp m]; exact ⟨kd, u, v, kk, rfl⟩⟩
    · exact ⟨p2, _, _, _, _, f2 h, q2, Nat.le_succ _, hx⟩
  refine conc (some (.tup [.str u, .str v])) (some (.str ot)) (fun h => ?_) (fun h => ?_)
  · obtain ⟨rfl, rfl⟩ := h
    cases b1
    · cases b2
      · simp at hot
        subst hot
        simp [callF, hasSub, frzO, isDct, evd, keyOk, keyOk1, finF, exSs, exS, ev, evs, evo, evc, evi, R.bind, R.then, evVar, gt, fin, val, two, many, Opd.get, only, D.fzn, fzns, dCmp, gets, dBi, dBin, dAug, dNeg, asgS, asgT, asgTs, put, mayAsg, subK, augK, retV, fins, dTru, dLen, owns, opnds, mmR, dMm, Mm.md, callR0, callR, noExc, takes, puts, isTys, isTy, items, seqItems, grdOf, gOk, Ct.lock, clear, back, clearOk, D.fz, fzs, dSl, bound, D.isNon, lcR, dEq, D.plain, plains, D.dep, deps, deq, deqs, (by decide : 1 ≤ sizeLine), (by decide : 2 ≤ sizeLine), (by decide : 3 ≤ sizeLine), (by decide : 4 ≤ sizeLine), (by decide : 5 ≤ sizeLine), (by decide : 6 ≤ sizeLine), b_stmtB, e1, e2, ek, es, ← hb1, ← hb2, i1, l3, (by decide : 1 + 2 ≤ sizeLine)]
      · simp at hot
        subst hot
        simp [callF, hasSub, frzO, isDct, evd, keyOk, keyOk1, finF, exSs, exS, ev, evs, evo, evc, evi, R.bind, R.then, evVar, gt, fin, val, two, many, Opd.get, only, D.fzn, fzns, dCmp, gets, dBi, dBin, dAug, dNeg, asgS, asgT, asgTs, put, mayAsg, subK, augK, retV, fins, dTru, dLen, owns, opnds, mmR, dMm, Mm.md, callR0, callR, noExc, takes, puts, isTys, isTy, items, seqItems, grdOf, gOk, Ct.lock, clear, back, clearOk, D.fz, fzs, dSl, bound, D.isNon, lcR, dEq, D.plain, plains, D.dep, deps, deq, deqs, (by decide : 1 ≤ sizeLine), (by decide : 2 ≤ sizeLine), (by decide : 3 ≤ sizeLine), (by decide : 4 ≤ sizeLine), (by decide : 5 ≤ sizeLine), (by decide : 6 ≤ sizeLine), b_stmtB, e1, e2, ek, es, ← hb1, ← hb2, i1, i2, l3, (by decide : 1 + 2 ≤ sizeLine)]
    · simp at hot
      subst hot
      simp [callF, hasSub, frzO, isDct, evd, keyOk, keyOk1, finF, exSs, exS, ev, evs, evo, evc, evi, R.bind, R.then, evVar, gt, fin, val, two, many, Opd.get, only, D.fzn, fzns, dCmp, gets, dBi, dBin, dAug, dNeg, asgS, asgT, asgTs, put, mayAsg, subK, augK, retV, fins, dTru, dLen, owns, opnds, mmR, dMm, Mm.md, callR0, callR, noExc, takes, puts, isTys, isTy, items, seqItems, grdOf, gOk, Ct.lock, clear, back, clearOk, D.fz, fzs, dSl, bound, D.isNon, lcR, dEq, D.plain, plains, D.dep, deps, deq, deqs, (by decide : 1 ≤ sizeLine), (by decide : 2 ≤ sizeLine), (by decide : 3 ≤ sizeLine), (by decide : 4 ≤ sizeLine), (by decide : 5 ≤ sizeLine), (by decide : 6 ≤ sizeLine), b_stmtB, e1, e2, ek, es, ← hb1, ← hb2, i1, i2, l3, (by decide : 1 + 2 ≤ sizeLine)]
  · have hh : (c1 = true) ∨ (c1 = false ∧ c2 = true) := by
      by_cases z1 : c1 = true
      · exact .inl z1
      · by_cases z2 : c2 = true
        · exact .inr ⟨by simpa using z1, z2⟩
        · exact absurd ⟨by simpa using z1, by simpa using z2⟩ h
    rcases hh with rfl | ⟨rfl, rfl⟩
    · cases b1
      · cases b2
        · simp [callF, hasSub, frzO, isDct, evd, keyOk, keyOk1, finF, exSs, exS, ev, evs, evo, evc, evi, R.bind, R.then, evVar, gt, fin, val, two, many, Opd.get, only, D.fzn, fzns, dCmp, gets, dBi, dBin, dAug, dNeg, asgS, asgT, asgTs, put, mayAsg, subK, augK, retV, fins, dTru, dLen, owns, opnds, mmR, dMm, Mm.md, callR0, callR, noExc, takes, puts, isTys, isTy, items, seqItems, grdOf, gOk, Ct.lock, clear, back, clearOk, D.fz, fzs, dSl, bound, D.isNon, lcR, dEq, D.plain, plains, D.dep, deps, deq, deqs, (by decide : 1 ≤ sizeLine), (by decide : 2 ≤ sizeLine), (by decide : 3 ≤ sizeLine), (by decide : 4 ≤ sizeLine), (by decide : 5 ≤ sizeLine), (by decide : 6 ≤ sizeLine), b_stmtB, e1, e2, ek, es, ← hb1, ← hb2, i1, (by decide : 1 + 2 ≤ sizeLine)]
          simp [hot]
        · simp [callF, hasSub, frzO, isDct, evd, keyOk, keyOk1, finF, exSs, exS, ev, evs, evo, evc, evi, R.bind, R.then, evVar, gt, fin, val, two, many, Opd.get, only, D.fzn, fzns, dCmp, gets, dBi, dBin, dAug, dNeg, asgS, asgT, asgTs, put, mayAsg, subK, augK, retV, fins, dTru, dLen, owns, opnds, mmR, dMm, Mm.md, callR0, callR, noExc, takes, puts, isTys, isTy, items, seqItems, grdOf, gOk, Ct.lock, clear, back, clearOk, D.fz, fzs, dSl, bound, D.isNon, lcR, dEq, D.plain, plains, D.dep, deps, deq, deqs, (by decide : 1 ≤ sizeLine), (by decide : 2 ≤ sizeLine), (by decide : 3 ≤ sizeLine), (by decide : 4 ≤ sizeLine), (by decide : 5 ≤ sizeLine), (by decide : 6 ≤ sizeLine), b_stmtB, e1, e2, ek, es, ← hb1, ← hb2, i1, (by decide : 1 + 2 ≤ sizeLine)]
          simp [hot]
      · simp [callF, hasSub, frzO, isDct, evd, keyOk, keyOk1, finF, exSs, exS, ev, evs, evo, evc, evi, R.bind, R.then, evVar, gt, fin, val, two, many, Opd.get, only, D.fzn, fzns, dCmp, gets, dBi, dBin, dAug, dNeg, asgS, asgT, asgTs, put, mayAsg, subK, augK, retV, fins, dTru, dLen, owns, opnds, mmR, dMm, Mm.md, callR0, callR, noExc, takes, puts, isTys, isTy, items, seqItems, grdOf, gOk, Ct.lock, clear, back, clearOk, D.fz, fzs, dSl, bound, D.isNon, lcR, dEq, D.plain, plains, D.dep, deps, deq, deqs, (by decide : 1 ≤ sizeLine), (by decide : 2 ≤ sizeLine), (by decide : 3 ≤ sizeLine), (by decide : 4 ≤ sizeLine), (by decide : 5 ≤ sizeLine), (by decide : 6 ≤ sizeLine), b_stmtB, e1, e2, ek, es, ← hb1, ← hb2, i1, (by decide : 1 + 2 ≤ sizeLine)]
        simp [hot]
    · cases b1
      · cases b2
        · simp at hot
          subst hot
          exact absurd (hc1.trans hc2.symm) (by decide)
        · simp at hot
          subst hot
          simp [callF, hasSub, frzO, isDct, evd, keyOk, keyOk1, finF, exSs, exS, ev, evs, evo, evc, evi, R.bind, R.then, evVar, gt, fin, val, two, many, Opd.get, only, D.fzn, fzns, dCmp, gets, dBi, dBin, dAug, dNeg, asgS, asgT, asgTs, put, mayAsg, subK, augK, retV, fins, dTru, dLen, owns, opnds, mmR, dMm, Mm.md, callR0, callR, noExc, takes, puts, isTys, isTy, items, seqItems, grdOf, gOk, Ct.lock, clear, back, clearOk, D.fz, fzs, dSl, bound, D.isNon, lcR, dEq, D.plain, plains, D.dep, deps, deq, deqs, (by decide : 1 ≤ sizeLine), (by decide : 2 ≤ sizeLine), (by decide : 3 ≤ sizeLine), (by decide : 4 ≤ sizeLine), (by decide : 5 ≤ sizeLine), (by decide : 6 ≤ sizeLine), b_stmtB, e1, e2, ek, es, ← hb1, ← hb2, i1, i2, (by decide : 1 + 2 ≤ sizeLine)]
      · simp at hot
        subst hot
        simp [callF, hasSub, frzO, isDct, evd, keyOk, keyOk1, finF, exSs, exS, ev, evs, evo, evc, evi, R.bind, R.then, evVar, gt, fin, val, two, many, Opd.get, only, D.fzn, fzns, dCmp, gets, dBi, dBin, dAug, dNeg, asgS, asgT, asgTs, put, mayAsg, subK, augK, retV, fins, dTru, dLen, owns, opnds, mmR, dMm, Mm.md, callR0, callR, noExc, takes, puts, isTys, isTy, items, seqItems, grdOf, gOk, Ct.lock, clear, back, clearOk, D.fz, fzs, dSl, bound, D.isNon, lcR, dEq, D.plain, plains, D.dep, deps, deq, deqs, (by decide : 1 ≤ sizeLine), (by decide : 2 ≤ sizeLine), (by decide : 3 ≤ sizeLine), (by decide : 4 ≤ sizeLine), (by decide : 5 ≤ sizeLine), (by decide : 6 ≤ sizeLine), b_stmtB, e1, e2, ek, es, ← hb1, ← hb2, i1, i2, (by decide : 1 + 2 ≤ sizeLine)]

theorem stmt_loop {j wf n most : Nat} {cf : Nat → List D → FR} (hd : DrawS (cf j)) {sl : List D} {p : P3} (hp : PoolP (n + 50) p) (h0 : 0 < sl.length) (hl : sl.length ≤ 1000) (hs : ∀ x ∈ sl, Slot x) (m1 : 1 ≤ most) (m2 : most ≤ 10) :
    ∃ p' s' y4 y5 y6 y7, exS ⟨3, [pd p, .lst false sl, .int (most : Int)], cf, wf, []⟩ (s_stmt j) [some (pd p), some (.lst false sl), some (.int (most : Int)), some (.lst false []), none, none, none, none] = .nx [some (pd p'), some (.lst false sl), some (.int (most : Int)), some (.lst false s'), y4, y5, y6, y7] ∧
      PoolP n p' ∧ s'.length ≤ 30 ∧ ∀ x ∈ s', Stp x := by
  obtain ⟨r, p1, e1, q1, hr⟩ := hd (n + 49) p (most : Int) hp (by omega) (by omega)
  obtain ⟨c, hc⟩ : ∃ c, c = 1 + r := ⟨_, rfl⟩
  have hc' : 1 + (r : Int) = (c : Int) := by omega
  have cB : c ≤ 10 := by omega
  have he : evi ⟨3, [pd p, .lst false sl, .int (most : Int)], cf, wf, []⟩ (.rng (.cons (.bin .add (.cst (.int 1)) (.call j (.cons (.var 0) (.cons (.var 2) .nil)))) .nil)) [some (pd p), some (.lst false sl), some (.int (most : Int)), some (.lst false []), none, none, none, none] =
      .ok (rngL 0 c, []) [some (pd p1), some (.lst false sl), some (.int (most : Int)), some (.lst false []), none, none, none, none] := by
    simp [callF, hasSub, frzO, isDct, evd, keyOk, keyOk1, finF, exSs, exS, ev, evs, evo, evc, evi, R.bind, R.then, evVar, gt, fin, val, two, many, Opd.get, dIx, L2.atI, L2.ixN, only, D.fzn, fzns, dCmp, gets, dBi, dBin, dAug, dNeg, asgS, asgT, asgTs, put, mayAsg, subK, augK, retV, fins, dTru, dLen, owns, opnds, mmR, dMm, Mm.md, callR0, callR, noExc, takes, puts, isTys, isTy, items, seqItems, grdOf, gOk, Ct.lock, clear, back, clearOk, D.fz, fzs, dSl, bound, D.isNon, lcR, dEq, D.plain, plains, D.dep, deps, deq, deqs, dIn, (by decide : 1 ≤ sizeLine), (by decide : 2 ≤ sizeLine), (by decide : 3 ≤ sizeLine), (by decide : 4 ≤ sizeLine), (by decide : 5 ≤ sizeLine), (by decide : 6 ≤ sizeLine), e1, hc', rng1 (n := c) (by omega)]
  let J : List D → Env → Prop := fun rs ρ => ∃ (p' : P3) (s' : List D) (y4 y5 y6 y7 : Option D), ρ = [some (pd p'), some (.lst false sl), some (.int (most : Int)), some (.lst false s'), y4, y5, y6, y7] ∧ PoolP (n + 2 * rs.length) p' ∧ s'.length + rs.length ≤ 10 ∧ ∀ x ∈ s', Stp x
  have step : ∀ x rs ρ, J (x :: rs) ρ → ∃ ρ1 ρ2, asgT ⟨3, [pd p, .lst false sl, .int (most : Int)], cf, wf, []⟩ (.nm 4) x ρ = some ρ1 ∧ exSs ⟨3, [pd p, .lst false sl, .int (most : Int)], cf, wf, []⟩ (b_stmtB j) ρ1 = .nx ρ2 ∧ gOk [] ρ2 = true ∧ J rs ρ2 := fun x rs ρ hJ => by
    obtain ⟨p2, s', y4, y5, y6, y7, rfl, g1, g2, g3⟩ := hJ
    simp only [List.length_cons] at g1 g2
    obtain ⟨p3, s3, z5, z6, z7, e, q, l, h⟩ := stmtB (n := n + 2 * rs.length) (wf := wf) (ds0 := pd p) (mst := .int (most : Int)) (x2 := some (.int (most : Int))) (x4 := some x) (x5 := y5) (x6 := y6) (x7 := y7) hd g1 h0 hl hs (by omega : s'.length ≤ 500) g3
    exact ⟨_, _, rfl, e, rfl, p3, s3, _, _, _, _, rfl, q, by omega, h⟩
  obtain ⟨ρ', h1, p', s', y4, y5, y6, y7, rfl, g1, g2, g3⟩ := forL_nx (gs := []) J step (rngL 0 c) [some (pd p1), some (.lst false sl), some (.int (most : Int)), some (.lst false []), none, none, none, none]
    ⟨p1, [], none, none, none, none, rfl, q1.mono (by rw [rngL_len]; omega), by rw [rngL_len]; simpa using cB, by simp⟩
  refine ⟨p', s', y4, y5, y6, y7, ?_, g1, by simp at g2; omega, g3⟩
  rw [s_stmt, exS_for he rfl]
  exact h1
theorem stmt_s {T : List Fd} {wf k j i : Nat} (hT : T[i]? = some ⟨3, 8, b_stmt j⟩) (hd : DrawS (callF T wf k j)) : StmtS (callF T wf (k + 1) i) := fun n p sl most hp h0 hl hs m1 m2 => by
  obtain ⟨p', s', y4, y5, y6, y7, e, q, l, h⟩ := stmt_loop (wf := wf) hd hp h0 hl hs m1 m2
  refine ⟨.tup s', p', ?_, q, s', rfl, l, h⟩
  simp [callF, hasSub, frzO, isDct, evd, keyOk, keyOk1, finF, exSs, exS, ev, evs, evo, evc, evi, R.bind, R.then, evVar, gt, fin, val, two, many, Opd.get, dIx, L2.atI, L2.ixN, only, D.fzn, fzns, dCmp, gets, dBi, dBin, dAug, dNeg, asgS, asgT, asgTs, put, mayAsg, subK, augK, retV, fins, dTru, dLen, owns, opnds, mmR, dMm, Mm.md, callR0, callR, noExc, takes, puts, isTys, isTy, items, seqItems, grdOf, gOk, Ct.lock, clear, back, clearOk, D.fz, fzs, dSl, bound, D.isNon, lcR, dEq, D.plain, plains, D.dep, deps, deq, deqs, dIn, (by decide : 1 ≤ sizeLine), (by decide : 2 ≤ sizeLine), (by decide : 3 ≤ sizeLine), (by decide : 4 ≤ sizeLine), (by decide : 5 ≤ sizeLine), (by decide : 6 ≤ sizeLine), hT, b_stmt, e, stp_fz h, (by decide : 0 ≤ sizeLine)]
end Aw

set_option Elab.async false
set_option linter.all false
set_option maxRecDepth 100000
set_option maxHeartbeats 4000000
/-! Lu: deal. -/
namespace Aw
open PySem
def e_deal (j s : Nat) : E := .lc [8] (.nm 8) (.rng (.cons (.bin .add (.cst (.int 1)) (.call j (.cons (.var 0) (.cons (.var 3) .nil)))) .nil)) .no (.call s (.cons (.var 0) (.cons (.var 1) (.cons (.var 4) .nil))))
def b_dealB (j s : Nat) : Ss := (.cons (.asg (.nm 7) (e_deal j s)) (.cons (.ex (.mm .append 5 (.cons (.tup (.cons (.ix (.tup (.cons (.cst (.str "now")) (.cons (.cst (.str "begin")) .nil))) (.call j (.cons (.var 0) (.cons (.cst (.int 2)) .nil)))) (.cons (.bi .tuple (.cons (.var 7) .nil)) .nil))) .nil))) .nil))
def s_deal (j s : Nat) : S := .forr (.nm 6) (.rng (.cons (.bin .add (.cst (.int 1)) (.call j (.cons (.var 0) (.cons (.var 2) .nil)))) .nil)) (b_dealB j s)
def b_deal (j s : Nat) : Ss := (.cons (.asg (.nm 5) (.lst .nil)) (.cons (s_deal j s) (.cons (.ret (.bi .tuple (.cons (.var 5) .nil))) .nil)))
def Piece (d : D) : Prop := ∃ (z : Str) (sts : List D), d = .tup [.str z, .tup sts] ∧ sts.length ≤ 10 ∧ ∀ y ∈ sts, Stm y
def Deal (d : D) : Prop := ∃ ps, d = .tup ps ∧ ps.length ≤ 10 ∧ ∀ x ∈ ps, Piece x
theorem stm_fz {xs : List D} (h : ∀ x ∈ xs, Stm x) : fzns xs = true := (fzns_iff _).mpr fun x m => by
  obtain ⟨ys, rfl, _, g⟩ := h x m
  exact stp_fz g
theorem piece_fz {xs : List D} (h : ∀ x ∈ xs, Piece x) : fzns xs = true := (fzns_iff _).mpr fun x m => by
  obtain ⟨z, sts, rfl, _, g⟩ := h x m
  simp [D.fzn, fzns, stm_fz g]
def DealS (cf : List D → FR) : Prop := ∀ (n : Nat) (p : P3) (sl : List D) (pieces most wide : Nat), PoolP (n + 5000) p → 0 < sl.length → sl.length ≤ 1000 → (∀ x ∈ sl, Slot x) → 1 ≤ pieces → pieces ≤ 8 → 1 ≤ most → most ≤ 8 → 1 ≤ wide → wide ≤ 10 →
  ∃ (d : D) (p' : P3), cf [pd p, .lst false sl, .int (pieces : Int), .int (most : Int), .int (wide : Int)] = .ok d [pd p', .lst false sl, .int (pieces : Int), .int (most : Int), .int (wide : Int)] ∧ PoolP n p' ∧ Deal d
theorem deal_lc {j s wf n most wide : Nat} {cf : Nat → List D → FR} {ds : List D} (hd : DrawS (cf j)) (hs : StmtS (cf s)) {sl : List D} {x2 x5 x6 x7 : Option D} {p : P3} (hp : PoolP (n + 450) p) (h0 : 0 < sl.length) (hl : sl.length ≤ 1000) (hsl : ∀ x ∈ sl, Slot x) (m1 : 1 ≤ most) (m2 : most ≤ 8) (w1 : 1 ≤ wide) (w2 : wide ≤ 10) :
    ∃ sts p', ev ⟨5, ds, cf, wf, []⟩ (e_deal j s) .keep [some (pd p), some (.lst false sl), x2, some (.int (most : Int)), some (.int (wide : Int)), x5, x6, x7, none] =
      .ok (.own (.lst false sts)) [some (pd p'), some (.lst false sl), x2, some (.int (most : Int)), some (.int (wide : Int)), x5, x6, x7, none] ∧ PoolP n p' ∧ sts.length ≤ 10 ∧ ∀ y ∈ sts, Stm y := by
  obtain ⟨r, p1, e1, q1, hr⟩ := hd (n + 449) p (most : Int) hp (by omega) (by omega)
  obtain ⟨c, hc⟩ : ∃ c, c = 1 + r := ⟨_, rfl⟩
  have hc' : 1 + (r : Int) = (c : Int) := by omega
  have cB : c ≤ 8 := by omega
  have he : evi ⟨5, ds, cf, wf, []⟩ (.rng (.cons (.bin .add (.cst (.int 1)) (.call j (.cons (.var 0) (.cons (.var 3) .nil)))) .nil)) [some (pd p), some (.lst false sl), x2, some (.int (most : Int)), some (.int (wide : Int)), x5, x6, x7, none] =
      .ok (rngL 0 c, []) [some (pd p1), some (.lst false sl), x2, some (.int (most : Int)), some (.int (wide : Int)), x5, x6, x7, none] := by
    simp [callF, hasSub, frzO, isDct, evd, keyOk, keyOk1, finF, exSs, exS, ev, evs, evo, evc, evi, R.bind, R.then, evVar, gt, fin, val, two, many, Opd.get, dIx, L2.atI, L2.ixN, only, D.fzn, fzns, dCmp, gets, dBi, dBin, dAug, dNeg, asgS, asgT, asgTs, put, mayAsg, subK, augK, retV, fins, dTru, dLen, owns, opnds, mmR, dMm, Mm.md, callR0, callR, noExc, takes, puts, isTys, isTy, items, seqItems, grdOf, gOk, Ct.lock, clear, back, clearOk, D.fz, fzs, dSl, bound, D.isNon, lcR, dEq, D.plain, plains, D.dep, deps, deq, deqs, dIn, (by decide : 1 ≤ sizeLine), (by decide : 2 ≤ sizeLine), (by decide : 3 ≤ sizeLine), (by decide : 4 ≤ sizeLine), (by decide : 5 ≤ sizeLine), (by decide : 6 ≤ sizeLine), e1, hc', rng1 (n := c) (by omega)]
  let J : List D → Env → Prop := fun rs ρ => ∃ (p' : P3) (y8 : Option D), ρ = [some (pd p'), some (.lst false sl), x2, some (.int (most : Int)), some (.int (wide : Int)), x5, x6, x7, y8] ∧ PoolP (n + 50 * rs.length) p'
  have step : ∀ x rs ρ, J (x :: rs) ρ → ∃ ρ1 ρ2 d ρ3, asgT ⟨5, ds, cf, wf, []⟩ (.nm 8) x (clear ρ [8]) = some ρ1 ∧ evc ⟨5, ds, cf, wf, []⟩ .no ρ1 = .ok (.own (.bl true)) ρ2 ∧
      ev ⟨5, ds, cf, wf, []⟩ (.call s (.cons (.var 0) (.cons (.var 1) (.cons (.var 4) .nil)))) .keep ρ2 = .ok (.own d) ρ3 ∧ gOk [] ρ3 = true ∧ Stm d ∧ J rs ρ3 := fun x rs ρ hJ => by
    obtain ⟨p2, y8, rfl, g1⟩ := hJ
    simp only [List.length_cons] at g1
    obtain ⟨d, p3, e, q, h⟩ := hs (n + 50 * rs.length) p2 sl wide (g1.mono (by omega)) h0 hl hsl w1 w2
    refine ⟨_, _, d, [some (pd p3), some (.lst false sl), x2, some (.int (most : Int)), some (.int (wide : Int)), x5, x6, x7, some x], rfl, rfl, ?_, rfl, h, p3, _, rfl, q⟩
    by_cases z : fzns sl = true
    · simp [callF, hasSub, frzO, isDct, evd, keyOk, keyOk1, finF, exSs, exS, ev, evs, evo, evc, evi, R.bind, R.then, evVar, gt, fin, val, two, many, Opd.get, dIx, L2.atI, L2.ixN, only, D.fzn, fzns, dCmp, gets, dBi, dBin, dAug, dNeg, asgS, asgT, asgTs, put, mayAsg, subK, augK, retV, fins, dTru, dLen, owns, opnds, mmR, dMm, Mm.md, callR0, callR, noExc, takes, puts, isTys, isTy, items, seqItems, grdOf, gOk, Ct.lock, clear, back, clearOk, D.fz, fzs, dSl, bound, D.isNon, lcR, dEq, D.plain, plains, D.dep, deps, deq, deqs, dIn, (by decide : 1 ≤ sizeLine), (by decide : 2 ≤ sizeLine), (by decide : 3 ≤ sizeLine), (by decide : 4 ≤ sizeLine), (by decide : 5 ≤ sizeLine), (by decide : 6 ≤ sizeLine), e, z]
    · exact absurd (slot_fz hsl) z
  obtain ⟨sts, ρ', h1, ⟨p', y8, rfl, q⟩, h3⟩ := lcL_all (gs := []) J (fun _ d => Stm d) step (rngL 0 c) [some (pd p1), some (.lst false sl), x2, some (.int (most : Int)), some (.int (wide : Int)), x5, x6, x7, none] ⟨p1, none, rfl, q1.mono (by rw [rngL_len]; omega)⟩
  exact ⟨sts, p', lc_eq (by intro h; cases h) he rfl rfl h1, q, by rw [← h3.len, rngL_len]; omega, All2.right h3⟩
theorem deal_loop {j s wf n pieces most wide : Nat} {cf : Nat → List D → FR} (hd : DrawS (cf j)) (hs : StmtS (cf s)) {sl : List D} {p : P3} {ds : List D} (hp : PoolP (n + 5000) p) (h0 : 0 < sl.length) (hl : sl.length ≤ 1000) (hsl : ∀ x ∈ sl, Slot x) (a1 : 1 ≤ pieces) (a2 : pieces ≤ 8) (m1 : 1 ≤ most) (m2 : most ≤ 8) (w1 : 1 ≤ wide) (w2 : wide ≤ 10) :
    ∃ p' made y6 y7, exS ⟨5, ds, cf, wf, []⟩ (s_deal j s) [some (pd p), some (.lst false sl), some (.int (pieces : Int)), some (.int (most : Int)), some (.int (wide : Int)), some (.lst false []), none, none, none] =
      .nx [some (pd p'), some (.lst false sl), some (.int (pieces : Int)), some (.int (most : Int)), some (.int (wide : Int)), some (.lst false made), y6, y7, none] ∧ PoolP n p' ∧ made.length ≤ 10 ∧ ∀ y ∈ made, Piece y := by
  obtain ⟨r, p1, e1, q1, hr⟩ := hd (n + 4999) p (pieces : Int) hp (by omega) (by omega)
  obtain ⟨c, hc⟩ : ∃ c, c = 1 + r := ⟨_, rfl⟩
  have hc' : 1 + (r : Int) = (c : Int) := by omega
  have cB : c ≤ 8 := by omega
  have he : evi ⟨5, ds, cf, wf, []⟩ (.rng (.cons (.bin .add (.cst (.int 1)) (.call j (.cons (.var 0) (.cons (.var 2) .nil)))) .nil)) [some (pd p), some (.lst false sl), some (.int (pieces : Int)), some (.int (most : Int)), some (.int (wide : Int)), some (.lst false []), none, none, none] =
      .ok (rngL 0 c, []) [some (pd p1), some (.lst false sl), some (.int (pieces : Int)), some (.int (most : Int)), some (.int (wide : Int)), some (.lst false []), none, none, none] := by
    simp [callF, hasSub, frzO, isDct, evd, keyOk, keyOk1, finF, exSs, exS, ev, evs, evo, evc, evi, R.bind, R.then, evVar, gt, fin, val, two, many, Opd.get, dIx, L2.atI, L2.ixN, only, D.fzn, fzns, dCmp, gets, dBi, dBin, dAug, dNeg, asgS, asgT, asgTs, put, mayAsg, subK, augK, retV, fins, dTru, dLen, owns, opnds, mmR, dMm, Mm.md, callR0, callR, noExc, takes, puts, isTys, isTy, items, seqItems, grdOf, gOk, Ct.lock, clear, back, clearOk, D.fz, fzs, dSl, bound, D.isNon, lcR, dEq, D.plain, plains, D.dep, deps, deq, deqs, dIn, (by decide : 1 ≤ sizeLine), (by decide : 2 ≤ sizeLine), (by decide : 3 ≤ sizeLine), (by decide : 4 ≤ sizeLine), (by decide : 5 ≤ sizeLine), (by decide : 6 ≤ sizeLine), e1, hc', rng1 (n := c) (by omega)]
  let J : List D → Env → Prop := fun rs ρ => ∃ (p' : P3) (made : List D) (y6 y7 : Option D), ρ = [some (pd p'), some (.lst false sl), some (.int (pieces : Int)), some (.int (most : Int)), some (.int (wide : Int)), some (.lst false made), y6, y7, none] ∧ PoolP (n + 500 * rs.length) p' ∧ made.length + rs.length ≤ 10 ∧ ∀ y ∈ made, Piece y
  have step : ∀ x rs ρ, J (x :: rs) ρ → ∃ ρ1 ρ2, asgT ⟨5, ds, cf, wf, []⟩ (.nm 6) x ρ = some ρ1 ∧ exSs ⟨5, ds, cf, wf, []⟩ (b_dealB j s) ρ1 = .nx ρ2 ∧ gOk [] ρ2 = true ∧ J rs ρ2 := fun x rs ρ hJ => by
    obtain ⟨p2, made, y6, y7, rfl, g1, g2, g3⟩ := hJ
    simp only [List.length_cons] at g1 g2
    obtain ⟨sts, p3, e, q, l, h⟩ := deal_lc (n := n + 500 * rs.length + 1) (wf := wf) (ds := ds) (x2 := some (.int (pieces : Int))) (x5 := some (.lst false made)) (x6 := some x) (x7 := y7) hd hs (g1.mono (by omega)) h0 hl hsl m1 m2 w1 w2
    obtain ⟨r2, p4, e2, q2, hr2⟩ := hd (n + 500 * rs.length) p3 2 q (by decide) (by decide)
    obtain ⟨z, ez⟩ : ∃ z : Str, dIx (.tup [.str "now", .str "begin"]) (.int (r2 : Int)) = some (.str z) := by
      have : r2 = 0 ∨ r2 = 1 := by omega
      rcases this with h | h <;> subst h <;> exact ⟨_, rfl⟩
    have l5 : made.length < sizeLine := Nat.lt_of_le_of_lt (by omega : _ ≤ 1000) (by decide)
    refine ⟨_, [some (pd p4), some (.lst false sl), some (.int (pieces : Int)), some (.int (most : Int)), some (.int (wide : Int)), some (.lst false (made ++ [.tup [.str z, .tup sts]])), some x, some (.lst false sts), none], rfl, ?_, rfl, p4, _, _, _, rfl, q2, ?_, ?_⟩
    · simp [callF, hasSub, frzO, isDct, evd, keyOk, keyOk1, finF, exSs, exS, ev, evs, evo, evc, evi, R.bind, R.then, evVar, gt, fin, val, two, many, Opd.get, only, D.fzn, fzns, dCmp, gets, dBi, dBin, dAug, dNeg, asgS, asgT, asgTs, put, mayAsg, subK, augK, retV, fins, dTru, dLen, owns, opnds, mmR, dMm, Mm.md, callR0, callR, noExc, takes, puts, isTys, isTy, items, seqItems, grdOf, gOk, Ct.lock, clear, back, clearOk, D.fz, fzs, dSl, bound, D.isNon, lcR, dEq, D.plain, plains, D.dep, deps, deq, deqs, dIn, (by decide : 1 ≤ sizeLine), (by decide : 2 ≤ sizeLine), (by decide : 3 ≤ sizeLine), (by decide : 4 ≤ sizeLine), (by decide : 5 ≤ sizeLine), (by decide : 6 ≤ sizeLine), b_dealB, e, e2, ez, l5, stm_fz h]
    · simp only [List.length_append, List.length_cons, List.length_nil]; omega
    · intro y m
      rcases List.mem_append.mp m with m | m
      · exact g3 y m
      · rw [List.mem_singleton.mp m]
        exact ⟨z, sts, rfl, l, h⟩
  obtain ⟨ρ', h1, p', made, y6, y7, rfl, g1, g2, g3⟩ := forL_nx (gs := []) J step (rngL 0 c) [some (pd p1), some (.lst false sl), some (.int (pieces : Int)), some (.int (most : Int)), some (.int (wide : Int)), some (.lst false []), none, none, none]
    ⟨p1, [], none, none, rfl, q1.mono (by rw [rngL_len]; omega), by rw [rngL_len]; simp; omega, by simp⟩
  refine ⟨p', made, y6, y7, ?_, g1, by simp at g2; omega, g3⟩
  rw [s_deal, exS_for he rfl]
  exact h1
theorem deal_s {T : List Fd} {wf k j s i : Nat} (hT : T[i]? = some ⟨5, 9, b_deal j s⟩) (hd : DrawS (callF T wf k j)) (hs : StmtS (callF T wf k s)) : DealS (callF T wf (k + 1) i) := fun n p sl pieces most wide hp h0 hl hsl a1 a2 m1 m2 w1 w2 => by
  obtain ⟨p', made, y6, y7, e, q, l, h⟩ := deal_loop (wf := wf) (ds := [pd p, .lst false sl, .int (pieces : Int), .int (most : Int), .int (wide : Int)]) hd hs hp h0 hl hsl a1 a2 m1 m2 w1 w2
  refine ⟨.tup made, p', ?_, q, made, rfl, l, h⟩
  simp [callF, hasSub, frzO, isDct, evd, keyOk, keyOk1, finF, exSs, exS, ev, evs, evo, evc, evi, R.bind, R.then, evVar, gt, fin, val, two, many, Opd.get, dIx, L2.atI, L2.ixN, only, D.fzn, fzns, dCmp, gets, dBi, dBin, dAug, dNeg, asgS, asgT, asgTs, put, mayAsg, subK, augK, retV, fins, dTru, dLen, owns, opnds, mmR, dMm, Mm.md, callR0, callR, noExc, takes, puts, isTys, isTy, items, seqItems, grdOf, gOk, Ct.lock, clear, back, clearOk, D.fz, fzs, dSl, bound, D.isNon, lcR, dEq, D.plain, plains, D.dep, deps, deq, deqs, dIn, (by decide : 1 ≤ sizeLine), (by decide : 2 ≤ sizeLine), (by decide : 3 ≤ sizeLine), (by decide : 4 ≤ sizeLine), (by decide : 5 ≤ sizeLine), (by decide : 6 ≤ sizeLine), hT, b_deal, e, piece_fz h]
end Aw

set_option Elab.async false
set_option linter.all false
set_option maxRecDepth 100000
set_option maxHeartbeats 4000000
/-! Lv: loops over typed lists; typed deals. -/
namespace Aw
open PySem
section
variable {α β γ σ : Type}
def encI (enc : Nat → α → β) : Nat → List α → List β
  | _, [] => []
  | i, a :: r => enc i a :: encI enc (i + 1) r
def foldI (f : σ → Nat → α → σ) : σ → Nat → List α → σ
  | s, _, [] => s
  | s, i, a :: r => foldI f (f s i a) (i + 1) r
def mapI (p : Nat → α → Bool) (g : Nat → α → D) : Nat → List α → List D
  | _, [] => []
  | i, a :: r => if p i a then g i a :: mapI p g (i + 1) r else mapI p g (i + 1) r
def flatI (f : Nat → α → List β) : Nat → List α → List β
  | _, [] => []
  | i, a :: r => f i a ++ flatI f (i + 1) r
theorem foldI_app (g : Nat → α → List β) : ∀ (i : Nat) (xs : List α) (F : List β), foldI (fun F i a => F ++ g i a) F i xs = F ++ flatI g i xs
  | _, [], F => by simp [foldI, flatI]
  | i, a :: r, F => by simp only [foldI, flatI, foldI_app g (i + 1) r, List.append_assoc]
theorem encI_map (f : Nat → α → β) (g : β → γ) : ∀ (i : Nat) (xs : List α), (encI f i xs).map g = encI (fun k a => g (f k a)) i xs
  | _, [] => rfl
  | i, a :: r => by simp only [encI, List.map_cons, encI_map f g (i + 1) r]
theorem flatI_map (f : Nat → α → List β) (g : β → γ) : ∀ (i : Nat) (xs : List α), (flatI f i xs).map g = flatI (fun k a => (f k a).map g) i xs
  | _, [] => rfl
  | i, a :: r => by simp only [flatI, List.map_append, flatI_map f g (i + 1) r]
theorem encI_len (f : Nat → α → β) : ∀ (i : Nat) (xs : List α), (encI f i xs).length = xs.length
  | _, [] => rfl
  | i, a :: r => by simp only [encI, List.length_cons, encI_len f (i + 1) r]
theorem flatI_len (f : Nat → α → List β) (B : Nat) : ∀ (i : Nat) (xs : List α), (∀ a ∈ xs, ∀ i, (f i a).length ≤ B) → (flatI f i xs).length ≤ B * xs.length
  | _, [], _ => Nat.zero_le _
  | i, a :: r, h => by
    have h1 := flatI_len f B (i + 1) r fun x m => h x (List.mem_cons_of_mem _ m)
    have h2 := h a List.mem_cons_self i
    simp only [flatI, List.length_append, List.length_cons, Nat.mul_add, Nat.mul_one]
    omega
theorem encI_mem {f : Nat → α → β} {x : β} : ∀ {i : Nat} {xs : List α}, x ∈ encI f i xs → ∃ k a, xs[k]? = some a ∧ x = f (i + k) a
  | _, [], m => by simp [encI] at m
  | i, a :: r, m => by
    rcases List.mem_cons.mp m with m | m
    · exact ⟨0, a, rfl, m⟩
    · obtain ⟨k, b, h1, h2⟩ := encI_mem m
      exact ⟨k + 1, b, by simpa using h1, by rw [h2]; congr 1; omega⟩
theorem flatI_mem {f : Nat → α → List β} {x : β} : ∀ {i : Nat} {xs : List α}, x ∈ flatI f i xs → ∃ k a, xs[k]? = some a ∧ x ∈ f (i + k) a
  | _, [], m => by simp [flatI] at m
  | i, a :: r, m => by
    rcases List.mem_append.mp m with m | m
    · exact ⟨0, a, rfl, m⟩
    · obtain ⟨k, b, h1, h2⟩ := flatI_mem m
      exact ⟨k + 1, b, by simpa using h1, by rw [show i + (k + 1) = i + 1 + k by omega]; exact h2⟩
theorem foldI_eq {f g : σ → Nat → α → σ} : ∀ (i : Nat) (xs : List α) (s : σ), (∀ k a s, f s k a = g s k a) → foldI f s i xs = foldI g s i xs
  | _, [], _, _ => rfl
  | i, a :: r, s, h => by simp only [foldI, h, foldI_eq (i + 1) r _ h]
theorem enc_enum (e : α → D) : ∀ (i : Nat) (xs : List α), enumL i (xs.map e) = encI (fun i a => .tup [.int (i : Int), e a]) i xs
  | _, [] => rfl
  | i, a :: r => by simp only [List.map_cons, enumL, encI, enc_enum e (i + 1) r]
theorem enc_rng_go : ∀ (i : Nat) (xs : List α), (List.range' i xs.length).map (fun (k : Nat) => D.int (k : Int)) = encI (fun i (_ : α) => .int (i : Int)) i xs
  | _, [] => rfl
  | i, a :: r => by simp only [List.length_cons, List.range'_succ, List.map_cons, encI, enc_rng_go (i + 1) r]
theorem enc_rng (xs : List α) : rngL 0 xs.length = encI (fun i (_ : α) => .int (i : Int)) 0 xs := by
  rw [← enc_rng_go, ← List.range_eq_range']
  unfold rngL
  apply List.map_congr_left
  intro k _
  simp
theorem enc_map (e : α → D) : ∀ (i : Nat) (xs : List α), xs.map e = encI (fun _ a => e a) i xs
  | _, [] => rfl
  | i, a :: r => by simp only [List.map_cons, encI, ← enc_map e (i + 1) r]
theorem forL_ix {C : Ct} {t : Tg} {gs : Grd} {body : Env → Out} {enc : Nat → α → D} (f : σ → Nat → α → σ) (J : Nat → σ → Env → Prop) (ys : List α)
    (step : ∀ i a s ρ, ys[i]? = some a → J i s ρ → ∃ ρ1 ρ2, asgT C t (enc i a) ρ = some ρ1 ∧ (body ρ1 = .nx ρ2 ∨ body ρ1 = .ct ρ2) ∧ gOk gs ρ2 = true ∧ J (i + 1) (f s i a) ρ2) :
    ∀ (xs : List α) (i : Nat) (s : σ) (ρ : Env), ys.drop i = xs → J i s ρ → ∃ ρ', forL C t gs body (encI enc i xs) ρ = .nx ρ' ∧ J (i + xs.length) (foldI f s i xs) ρ'
  | [], i, s, ρ, _, h => ⟨ρ, rfl, h⟩
  | a :: xs, i, s, ρ, hd, h => by
    have ha : ys[i]? = some a := by
      have := congrArg (·[0]?) hd
      simpa [List.getElem?_drop] using this
    have hx : ys.drop (i + 1) = xs := by rw [← List.drop_drop, hd]; rfl
    obtain ⟨ρ1, ρ2, h1, h2, h3, h4⟩ := step i a s ρ ha h
    obtain ⟨ρ', e, h5⟩ := forL_ix f J ys step xs (i + 1) _ ρ2 hx h4
    refine ⟨ρ', ?_, by rw [show i + (a :: xs).length = i + 1 + xs.length by simp only [List.length_cons]; omega]; exact h5⟩
    rcases h2 with h2 | h2 <;> simp only [encI, forL, h1, h2, h3, if_pos, e]
/-- a loop over typed things -/
theorem for_ix {C : Ct} {t : Tg} {it : It} {b : Ss} {ρ ρ1 : Env} {gs : Grd} {enc : Nat → α → D} (xs : List α) (f : σ → Nat → α → σ) (J : Nat → σ → Env → Prop) (s0 : σ)
    (he : evi C it ρ = .ok (encI enc 0 xs, gs) ρ1) (g : gOk gs ρ1 = true) (h0 : J 0 s0 ρ1)
    (step : ∀ i a s ρ, xs[i]? = some a → J i s ρ → ∃ ρ1 ρ2, asgT (C.lock gs) t (enc i a) ρ = some ρ1 ∧ (exSs (C.lock gs) b ρ1 = .nx ρ2 ∨ exSs (C.lock gs) b ρ1 = .ct ρ2) ∧ gOk gs ρ2 = true ∧ J (i + 1) (f s i a) ρ2) :
    ∃ ρ', exS C (.forr t it b) ρ = .nx ρ' ∧ J xs.length (foldI f s0 0 xs) ρ' := by
  obtain ⟨ρ', e, h⟩ := forL_ix (C := C.lock gs) (t := t) (gs := gs) (body := fun ρ' => exSs (C.lock gs) b ρ') (enc := enc) f J xs step xs 0 s0 ρ1 rfl h0
  refine ⟨ρ', ?_, by rwa [Nat.zero_add] at h⟩
  rw [exS_for he g]
  exact e

/-! ### comprehensions -/
theorem clearL_len : ∀ (own : List Nat) (ρ : Env), (clear ρ own).length = ρ.length
  | [], _ => rfl
  | i :: is, ρ => by simp [clear, clearL_len is ρ]
theorem backL_len : ∀ (own : List Nat) (old ρ : Env), (back old ρ own).length = ρ.length
  | [], _, _ => rfl
  | i :: is, old, ρ => by simp [back, backL_len is old ρ]
theorem clear_get : ∀ (own : List Nat) (ρ : Env) (j : Nat), (clear ρ own)[j]? = if j ∈ own then ρ[j]?.map (fun _ => none) else ρ[j]?
  | [], ρ, j => by simp [clear]
  | i :: own, ρ, j => by
    simp only [clear, List.getElem?_set, clear_get own ρ]
    by_cases c : i = j
    · subst c
      have hl := clearL_len own ρ
      simp only [if_pos, hl, List.mem_cons, true_or, if_true]
      by_cases h : i < ρ.length
      · simp [h]
      · simp [h]
    · simp [c, Ne.symm c, List.mem_cons]
theorem back_get : ∀ (own : List Nat) (old ρ : Env) (j : Nat), (back old ρ own)[j]? = if j ∈ own then ρ[j]?.map (fun _ => gt old j) else ρ[j]?
  | [], old, ρ, j => by simp [back]
  | i :: own, old, ρ, j => by
    simp only [back, List.getElem?_set, back_get own old ρ]
    by_cases c : i = j
    · subst c
      have hl := backL_len own old ρ
      simp only [if_pos, hl, List.mem_cons, true_or, if_true]
      by_cases h : i < ρ.length
      · simp [h]
      · simp [h]
    · simp [c, Ne.symm c, List.mem_cons]
theorem back_clear {own : List Nat} {ρ1 ρ2 : Env} (h : clear ρ2 own = clear ρ1 own) : back ρ1 ρ2 own = ρ1 := by
  apply List.ext_getElem?
  intro j
  have hj := congrArg (·[j]?) h
  simp only [clear_get] at hj
  rw [back_get]
  by_cases c : j ∈ own
  · rw [if_pos c] at hj ⊢
    rw [if_pos c] at hj
    cases e1 : ρ1[j]? with
    | none =>
      rw [e1] at hj
      cases e2 : ρ2[j]? with
      | none => rfl
      | some o => rw [e2] at hj; cases hj
    | some o =>
      rw [e1] at hj
      cases e2 : ρ2[j]? with
      | none => rw [e2] at hj; cases hj
      | some o' => simp [gt, e1]
  · rw [if_neg c] at hj ⊢
    rw [if_neg c] at hj
    exact hj
theorem lcL_ix {C : Ct} {own : List Nat} {t : Tg} {gs : Grd} {c e : Env → R Opd} {enc : Nat → α → D} (p : Nat → α → Bool) (g : Nat → α → D) (ρ0 : Env) (ys : List α)
    (step : ∀ i a, ys[i]? = some a → ∃ ρa, asgT C t (enc i a) ρ0 = some ρa ∧ c ρa = .ok (.own (.bl (p i a))) ρa ∧ (p i a = true → e ρa = .ok (.own (g i a)) ρa) ∧ gOk gs ρa = true ∧ clear ρa own = ρ0) :
    ∀ (xs : List α) (i : Nat) (ρ : Env), ys.drop i = xs → clear ρ own = ρ0 → ∃ ρ', lcL C own t gs c e (encI enc i xs) ρ = .ok (mapI p g i xs) ρ' ∧ clear ρ' own = ρ0
  | [], i, ρ, _, h => ⟨ρ, rfl, h⟩
  | a :: xs, i, ρ, hd, h => by
    have ha : ys[i]? = some a := by
      have := congrArg (·[0]?) hd
      simpa [List.getElem?_drop] using this
    have hx : ys.drop (i + 1) = xs := by rw [← List.drop_drop, hd]; rfl
    obtain ⟨ρa, h1, h2, h3, h4, h5⟩ := step i a ha
    obtain ⟨ρ', q1, q2⟩ := lcL_ix p g ρ0 ys step xs (i + 1) ρa hx h5
    refine ⟨ρ', ?_, q2⟩
    by_cases z : p i a = true
    · simp only [encI, mapI, lcL, h, h1, h2, R.bind, z, h3 z, h4, if_pos, q1]
    · have z' : p i a = false := by simpa using z
      simp only [encI, mapI, lcL, h, h1, h2, R.bind, z', h4, if_pos, q1, Bool.false_eq_true, if_false]
/-- a comprehension over typed things -/
theorem lc_ix {C : Ct} {own : List Nat} {t : Tg} {it : It} {c : Eo} {e : E} {ρ ρ1 : Env} {gs : Grd} {md : Md} {enc : Nat → α → D} (hm : md ≠ .test) (xs : List α) (p : Nat → α → Bool) (g : Nat → α → D)
    (he : evi C it ρ = .ok (encI enc 0 xs, gs) ρ1) (cl : clearOk (C.lock gs) ρ1 own = true) (gk : gOk gs ρ1 = true)
    (step : ∀ i a, xs[i]? = some a → ∃ ρa, asgT (C.lock gs) t (enc i a) (clear ρ1 own) = some ρa ∧ evc (C.lock gs) c ρa = .ok (.own (.bl (p i a))) ρa ∧ (p i a = true → ev (C.lock gs) e .keep ρa = .ok (.own (g i a)) ρa) ∧ gOk gs ρa = true ∧ clear ρa own = clear ρ1 own) :
    ev C (.lc own t it c e) md ρ = .ok (.own (.lst false (mapI p g 0 xs))) ρ1 := by
  obtain ⟨ρ', h1, h2⟩ := lcL_ix (C := C.lock gs) (own := own) (t := t) (gs := gs) (c := fun ρ' => evc (C.lock gs) c ρ') (e := fun ρ' => ev (C.lock gs) e .keep ρ') (enc := enc) p g (clear ρ1 own) xs step xs 0 ρ1 rfl rfl
  rw [lc_eq hm he cl gk h1, back_clear h2]
theorem mapI_all (g : Nat → α → D) : ∀ (i : Nat) (xs : List α), mapI (fun _ _ => true) g i xs = encI g i xs
  | _, [] => rfl
  | i, a :: r => by simp only [mapI, encI, if_true, mapI_all g (i + 1) r]
theorem mapI_flat (p : α → Bool) (g : α → D) : ∀ (i : Nat) (xs : List α), mapI (fun _ a => p a) (fun _ a => g a) i xs = (xs.filter p).map g
  | _, [] => rfl
  | i, a :: r => by
    simp only [mapI, mapI_flat p g (i + 1) r, List.filter_cons]
    split <;> rfl
end

theorem enough' {n : Nat} (h : n ≤ 10000000) : n ≤ sizeLine := Nat.le_trans h (by decide)
/-! ### typed deals -/
abbrev St3 := Str × Str × Str
def eS (s : St3) : D := .tup [.str s.1, .str s.2.1, .str s.2.2]
def eSt (l : List St3) : D := .tup (l.map eS)
abbrev Pc := Str × List (List St3)
def eP (p : Pc) : D := .tup [.str p.1, .tup (p.2.map eSt)]
def eD (d : List Pc) : D := .tup (d.map eP)
structure GoodSts (l : List (List St3)) : Prop where
  len : l.length ≤ 10
  st : ∀ s ∈ l, s.length ≤ 30 ∧ ∀ x ∈ s, Knd x.1
structure Good (d : List Pc) : Prop where
  len : d.length ≤ 10
  pc : ∀ p ∈ d, GoodSts p.2
theorem all_dec {α : Type} {P : α → Prop} {e : α → D} {Q : D → Prop} (h : ∀ d, Q d → ∃ a, d = e a ∧ P a) : ∀ ds : List D, (∀ d ∈ ds, Q d) → ∃ as : List α, ds = as.map e ∧ ∀ a ∈ as, P a
  | [], _ => ⟨[], rfl, by simp⟩
  | d :: ds, hq => by
    obtain ⟨a, rfl, pa⟩ := h d (hq d List.mem_cons_self)
    obtain ⟨as, rfl, pas⟩ := all_dec h ds fun x m => hq x (List.mem_cons_of_mem _ m)
    exact ⟨a :: as, rfl, fun x m => (List.mem_cons.mp m).elim (fun z => z ▸ pa) (pas x)⟩
theorem stp_dec (d : D) (h : Stp d) : ∃ s : St3, d = eS s ∧ Knd s.1 := by
  obtain ⟨k, u, v, hk, rfl⟩ := h
  exact ⟨(k, u, v), rfl, hk⟩
theorem stm_dec (d : D) (h : Stm d) : ∃ s : List St3, d = eSt s ∧ (s.length ≤ 30 ∧ ∀ x ∈ s, Knd x.1) := by
  obtain ⟨xs, rfl, l, g⟩ := h
  obtain ⟨as, rfl, ga⟩ := all_dec stp_dec xs g
  exact ⟨as, rfl, by simpa using l, ga⟩
theorem piece_dec (d : D) (h : Piece d) : ∃ p : Pc, d = eP p ∧ GoodSts p.2 := by
  obtain ⟨z, sts, rfl, l, g⟩ := h
  obtain ⟨as, rfl, ga⟩ := all_dec stm_dec sts g
  exact ⟨(z, as), rfl, ⟨by simpa using l, ga⟩⟩
theorem deal_dec (d : D) (h : Deal d) : ∃ t : List Pc, d = eD t ∧ Good t := by
  obtain ⟨ps, rfl, l, g⟩ := h
  obtain ⟨as, rfl, ga⟩ := all_dec piece_dec ps g
  exact ⟨as, rfl, ⟨by simpa using l, ga⟩⟩
theorem eS_fz (l : List St3) : fzns (l.map eS) = true := (fzns_iff _).mpr fun x m => by obtain ⟨s, _, rfl⟩ := List.mem_map.mp m; rfl
theorem eS_pl (l : List St3) : plains (l.map eS) = true := (plains_iff _).mpr fun x m => by obtain ⟨s, _, rfl⟩ := List.mem_map.mp m; rfl
theorem eSt_fz1 (l : List St3) : (eSt l).fzn = true := by simp only [eSt, D.fzn]; exact eS_fz l
theorem eSt_fz (l : List (List St3)) : fzns (l.map eSt) = true := (fzns_iff _).mpr fun x m => by obtain ⟨s, _, rfl⟩ := List.mem_map.mp m; exact eSt_fz1 s
theorem eP_fz1 (p : Pc) : (eP p).fzn = true := by simp only [eP, D.fzn, fzns, eSt_fz, Bool.and_self]
theorem eP_fz (l : List Pc) : fzns (l.map eP) = true := (fzns_iff _).mpr fun x m => by obtain ⟨s, _, rfl⟩ := List.mem_map.mp m; exact eP_fz1 s
theorem eD_fz1 (d : List Pc) : (eD d).fzn = true := by simp only [eD, D.fzn]; exact eP_fz d
theorem ix_tup {ps : List D} {i : Nat} {P : D} (h : ps[i]? = some P) : dIx (.tup ps) (.int (i : Int)) = some P := by
  obtain ⟨hi, e⟩ := List.getElem?_eq_some_iff.mp h
  simp [dIx, L2.atI, L2.ixN, hi, e]
theorem ix_lst {ps : List D} {i : Nat} {P : D} {f : Bool} (h : ps[i]? = some P) : dIx (.lst f ps) (.int (i : Int)) = some P := by
  obtain ⟨hi, e⟩ := List.getElem?_eq_some_iff.mp h
  simp [dIx, L2.atI, L2.ixN, hi, e]
theorem ix_0 {a : D} {r : List D} : dIx (.tup (a :: r)) (.int 0) = some a := by simp [dIx, L2.atI, L2.ixN]
theorem ix_1 {a b : D} {r : List D} : dIx (.tup (a :: b :: r)) (.int 1) = some b := ix_tup (i := 1) rfl
theorem ix_2 {a b c : D} {r : List D} : dIx (.tup (a :: b :: c :: r)) (.int 2) = some c := ix_tup (i := 2) rfl
end Aw

set_option Elab.async false
set_option linter.all false
set_option maxRecDepth 100000
set_option maxHeartbeats 4000000
/-! ### the text: the trees of its defs -/
namespace K05
open PySem L2 PySem.Spec Aw
open PyProof.Rows hiding St
def b_is_change : Ss := (.cons (.ret (.cmp .isIn (.var 0) (.tup (.cons (.cst (.str "write")) (.cons (.cst (.str "add")) .nil))))) .nil)
def b_kinds_clash : Ss := (.cons (.iff (.cmp .eq (.var 0) (.cst (.str "write"))) (.cons (.ret (.cmp .ne (.var 1) (.cst (.str "read")))) .nil) .nil) (.cons (.iff (.cmp .eq (.var 1) (.cst (.str "write"))) (.cons (.ret (.cmp .ne (.var 0) (.cst (.str "read")))) .nil) .nil) (.cons (.ret (.bop false (.bop true (.cmp .eq (.var 0) (.cst (.str "add"))) (.cmp .eq (.var 1) (.cst (.str "hold")))) (.bop true (.cmp .eq (.var 0) (.cst (.str "hold"))) (.cmp .eq (.var 1) (.cst (.str "add")))))) .nil)))
def b_kinds_meet : Ss := (.cons (.iff (.call 1 (.cons (.var 0) (.cons (.var 1) .nil))) (.cons (.ret (.cst (.bl true))) .nil) .nil) (.cons (.ret (.bop false (.bop true (.call 0 (.cons (.var 0) .nil)) (.cmp .isIn (.var 1) (.tup (.cons (.cst (.str "read")) (.cons (.cst (.str "hold")) .nil))))) (.bop true (.call 0 (.cons (.var 1) .nil)) (.cmp .isIn (.var 0) (.tup (.cons (.cst (.str "read")) (.cons (.cst (.str "hold")) .nil))))))) .nil))
def b_places_of : Ss := (.cons (.asg (.nm 1) (.lst .nil)) (.cons (.forr (.tup [(.nm 2), (.tup [(.nm 3), (.nm 4)])]) (.enum (.var 0)) (.cons (.forr (.tup [(.nm 5), (.nm 6)]) (.enum (.var 4)) (.cons (.ex (.mm .extend 1 (.cons (.lc [7] (.nm 7) (.rng (.cons (.bi .len (.cons (.var 6) .nil)) .nil)) .no (.tup (.cons (.var 2) (.cons (.var 5) (.cons (.var 7) .nil))))) .nil))) .nil)) .nil)) (.cons (.ret (.bi .tuple (.cons (.var 1) .nil))) .nil)))
def b_step_at : Ss := (.cons (.ret (.ix (.ix (.ix (.ix (.var 0) (.ix (.var 1) (.cst (.int 0)))) (.cst (.int 1))) (.ix (.var 1) (.cst (.int 1)))) (.ix (.var 1) (.cst (.int 2))))) .nil)
def b_is_own : Ss := (.cons (.asg (.tup [(.nm 3), (.nm 4), (.nm 5)]) (.call 4 (.cons (.var 0) (.cons (.var 1) .nil)))) (.cons (.iff (.cmp .notIn (.var 3) (.tup (.cons (.cst (.str "read")) (.cons (.cst (.str "hold")) .nil)))) (.cons (.ret (.cst (.bl false))) .nil) .nil) (.cons (.asg (.nm 2) (.tup (.cons (.cst (.str "write")) (.cons (.var 4) (.cons (.var 5) .nil))))) (.cons (.ret (.bi .any (.cons (.lc [6] (.nm 6) (.e (.sl (.ix (.ix (.var 0) (.ix (.var 1) (.cst (.int 0)))) (.cst (.int 1))) .no (.yes (.ix (.var 1) (.cst (.int 1)))))) .no (.cmp .isIn (.var 2) (.var 6))) .nil))) .nil))))
def b_placed_steps : Ss := (.cons (.ret (.lc [1] (.nm 1) (.e (.call 3 (.cons (.var 0) .nil))) .no (.tup (.cons (.var 1) (.cons (.call 4 (.cons (.var 0) (.cons (.var 1) .nil))) .nil))))) .nil)
def b_open_steps : Ss := (.cons (.asg (.nm 1) (.lst .nil)) (.cons (.forr (.tup [(.nm 2), (.tup [(.nm 4), (.nm 5)])]) (.enum (.var 0)) (.cons (.asg (.nm 3) (.dnew true)) (.cons (.forr (.tup [(.nm 6), (.nm 7)]) (.enum (.var 5)) (.cons (.forr (.tup [(.nm 8), (.tup [(.nm 9), (.nm 10), (.nm 11)])]) (.enum (.var 7)) (.cons (.iff (.bop false (.cmp .notIn (.var 9) (.tup (.cons (.cst (.str "read")) (.cons (.cst (.str "hold")) .nil)))) (.cmp .notIn (.tup (.cons (.var 10) (.cons (.var 11) .nil))) (.var 3))) (.cons (.ex (.mm .append 1 (.cons (.tup (.cons (.tup (.cons (.var 2) (.cons (.var 6) (.cons (.var 8) .nil)))) (.cons (.tup (.cons (.var 9) (.cons (.var 10) (.cons (.var 11) .nil)))) .nil))) .nil))) .nil) .nil) .nil)) (.cons (.forr (.tup [(.nm 9), (.nm 10), (.nm 11)]) (.e (.var 7)) (.cons (.iff (.cmp .eq (.var 9) (.cst (.str "write"))) (.cons (.sub 3 (.tup (.cons (.var 10) (.cons (.var 11) .nil))) (.cst (.bl true))) .nil) .nil) .nil)) .nil))) .nil))) (.cons (.ret (.var 1)) .nil)))
def b_steps_meet : Ss := (.cons (.ret (.bop true (.cmp .eq (.sl (.var 0) (.yes (.cst (.int 1))) .no) (.sl (.var 1) (.yes (.cst (.int 1))) .no)) (.call 2 (.cons (.ix (.var 0) (.cst (.int 0))) (.cons (.ix (.var 1) (.cst (.int 0))) .nil))))) .nil)
def b_steps_clash : Ss := (.cons (.ret (.bop true (.cmp .eq (.sl (.var 0) (.yes (.cst (.int 1))) .no) (.sl (.var 1) (.yes (.cst (.int 1))) .no)) (.call 1 (.cons (.ix (.var 0) (.cst (.int 0))) (.cons (.ix (.var 1) (.cst (.int 0))) .nil))))) .nil)
def b_meetings_of : Ss := (.cons (.asg (.nm 2) (.lst .nil)) (.cons (.asg (.nm 3) (.call 7 (.cons (.var 1) .nil))) (.cons (.forr (.tup [(.nm 4), (.nm 5)]) (.e (.call 7 (.cons (.var 0) .nil))) (.cons (.ex (.mm .extend 2 (.cons (.lc [6, 7] (.tup [(.nm 6), (.nm 7)]) (.e (.var 3)) (.yes (.call 8 (.cons (.var 5) (.cons (.var 7) .nil)))) (.tup (.cons (.var 4) (.cons (.var 6) .nil)))) .nil))) .nil)) (.cons (.ret (.bi .tuple (.cons (.var 2) .nil))) .nil))))
def b_clashes_of : Ss := (.cons (.asg (.nm 2) (.lst .nil)) (.cons (.asg (.nm 3) (.call 6 (.cons (.var 1) .nil))) (.cons (.forr (.tup [(.nm 4), (.nm 5)]) (.e (.call 6 (.cons (.var 0) .nil))) (.cons (.ex (.mm .extend 2 (.cons (.lc [6, 7] (.tup [(.nm 6), (.nm 7)]) (.e (.var 3)) (.yes (.call 9 (.cons (.var 5) (.cons (.var 7) .nil)))) (.tup (.cons (.var 4) (.cons (.var 6) .nil)))) .nil))) .nil)) (.cons (.ret (.bi .tuple (.cons (.var 2) .nil))) .nil))))
def b_law_pool : Ss := (.cons (.asg (.nm 1) (.lst (.cons (.cst (.int 0)) (.cons (.cst (.int 0)) (.cons (.cst (.int 1021)) .nil))))) (.cons (.forr (.nm 2) (.e (.sl (.var 0) .no (.yes (.cst (.int 63))))) (.cons (.asg (.nm 3) (.bin .mod (.bi .int (.cons (.var 2) .nil)) (.bin .pow (.cst (.int 10)) (.cst (.int 59))))) (.cons (.asg (.nm 4) (.cmp .ge (.var 3) (.bin .pow (.cst (.int 10)) (.cst (.int 18))))) (.cons (.asg (.nm 5) (.bin .mod (.bin .add (.bin .add (.bin .mul (.var 3) (.cst (.int 3935559000370003845))) (.bin .mul (.ix (.var 1) (.cst (.int 1))) (.cst (.int 7741)))) (.cst (.int 1021))) (.cst (.int 2305843009213693951)))) (.cons (.asg (.nm 5) (.bin .mod (.bin .mul (.var 5) (.var 5)) (.cst (.int 2305843009213693951)))) (.cons (.sub 1 (.cst (.int 1)) (.bin .add (.ix (.var 1) (.cst (.int 1))) (.cst (.int 1)))) (.cons (.sub 1 (.cst (.int 2)) (.bin .mod (.bin .add (.bin .mul (.ix (.var 1) (.cst (.int 2))) (.cst (.int 191))) (.var 5)) (.cst (.int 2305843009213693951)))) (.cons (.sub 1 (.cst (.int 0)) (.ite (.var 4) (.bin .add (.bin .mul (.ix (.var 1) (.cst (.int 0))) (.bin .pow (.cst (.int 10)) (.cst (.int 59)))) (.var 3)) (.bin .add (.bin .mul (.ix (.var 1) (.cst (.int 0))) (.cst (.int 2305843009213693951))) (.var 5)))) .nil)))))))) (.cons (.ret (.var 1)) .nil)))
def b_law_draw : Ss := (.cons (.iff (.cmp .lt (.ix (.var 0) (.cst (.int 0))) (.var 1)) (.cons (.sub 0 (.cst (.int 1)) (.bin .add (.ix (.var 0) (.cst (.int 1))) (.cst (.int 1)))) (.cons (.sub 0 (.cst (.int 2)) (.bin .mod (.bin .add (.bin .mul (.ix (.var 0) (.cst (.int 2))) (.cst (.int 39373))) (.bin .mul (.ix (.var 0) (.cst (.int 1))) (.cst (.int 1021)))) (.cst (.int 2305843009213693951)))) (.cons (.sub 0 (.cst (.int 0)) (.bin .fdiv (.bin .mul (.ix (.var 0) (.cst (.int 2))) (.ix (.var 0) (.cst (.int 2)))) (.cst (.int 4096)))) .nil))) .nil) (.cons (.asg (.nm 2) (.bin .mod (.bi .int (.cons (.ix (.var 0) (.cst (.int 0))) .nil)) (.var 1))) (.cons (.sub 0 (.cst (.int 0)) (.bin .fdiv (.ix (.var 0) (.cst (.int 0))) (.var 1))) (.cons (.ret (.var 2)) .nil))))
def b_law_order : Ss := (.cons (.asg (.nm 2) (.bi .list (.cons (.var 1) .nil))) (.cons (.asg (.nm 3) (.lst .nil)) (.cons (.forr (.nm 4) (.rng (.cons (.bi .len (.cons (.var 2) .nil)) .nil)) (.cons (.asg (.nm 5) (.call 13 (.cons (.var 0) (.cons (.bi .len (.cons (.var 2) .nil)) .nil)))) (.cons (.ex (.mm .append 3 (.cons (.ix (.var 2) (.var 5)) .nil))) (.cons (.asg (.nm 2) (.bin .add (.sl (.var 2) .no (.yes (.var 5))) (.sl (.var 2) (.yes (.bin .add (.var 5) (.cst (.int 1)))) .no))) .nil)))) (.cons (.ret (.var 3)) .nil))))
def b_law_word : Ss := (.cons (.asg (.nm 4) (.bin .add (.var 2) (.call 13 (.cons (.var 0) (.cons (.bin .add (.bin .sub (.var 3) (.var 2)) (.cst (.int 1))) .nil))))) (.cons (.ret (.mt .join (.cst (.str "")) (.cons (.lc [5] (.nm 5) (.rng (.cons (.var 4) .nil)) .no (.ix (.var 1) (.call 13 (.cons (.var 0) (.cons (.bi .len (.cons (.var 1) .nil)) .nil))))) .nil))) .nil))
def b_law_column : Ss := (.cons (.asg (.nm 1) (.cst (.str "ABCDEFGHIJKLMNOPQRSTUVWXYZ"))) (.cons (.asg (.nm 2) (.bin .add (.var 1) (.cst (.str "abcdefghijklmnopqrstuvwxyz0123456789")))) (.cons (.ret (.bin .add (.ix (.var 1) (.call 13 (.cons (.var 0) (.cons (.cst (.int 26)) .nil)))) (.call 15 (.cons (.var 0) (.cons (.var 2) (.cons (.cst (.int 0)) (.cons (.ix (.tup (.cons (.cst (.int 0)) (.cons (.cst (.int 1)) (.cons (.cst (.int 7)) .nil)))) (.call 13 (.cons (.var 0) (.cons (.cst (.int 3)) .nil)))) .nil))))))) .nil)))
def b_law_slots : Ss := (.cons (.asg (.nm 2) (.call 16 (.cons (.var 0) .nil))) (.cons (.asg (.nm 3) (.bin .add (.ix (.cst (.str "BA")) (.cmp .eq (.ix (.var 2) (.cst (.int 0))) (.cst (.str "B")))) (.call 15 (.cons (.var 0) (.cons (.cst (.str "aZ09")) (.cons (.cst (.int 0)) (.cons (.cst (.int 2)) .nil))))))) (.cons (.asg (.nm 4) (.call 15 (.cons (.var 0) (.cons (.cst (.str "abcdefghijklmnopqrstuvwxyz0123456789")) (.cons (.cst (.int 0)) (.cons (.cst (.int 7)) .nil)))))) (.cons (.asg (.nm 5) (.call 13 (.cons (.var 0) (.cons (.cst (.int 30)) .nil)))) (.cons (.asg (.nm 6) (.lc [8] (.nm 8) (.rng (.cons (.cst (.int 6)) .nil)) .no (.bin .add (.var 4) (.ix (.cst (.str "abcdefghijklmnopqrstuvwxyz0123456789")) (.bin .add (.var 5) (.var 8)))))) (.cons (.iff (.cmp .eq (.var 2) (.var 3)) (.cons (.asg (.nm 3) (.cst (.str "C"))) .nil) .nil) (.cons (.asg (.nm 7) (.bin .add (.lc [9] (.nm 9) (.e (.var 6)) .no (.tup (.cons (.var 2) (.cons (.var 9) .nil)))) (.lc [9] (.nm 9) (.e (.var 6)) .no (.tup (.cons (.var 3) (.cons (.var 9) .nil)))))) (.cons (.ret (.sl (.call 14 (.cons (.var 0) (.cons (.var 7) .nil))) .no (.yes (.var 1)))) .nil))))))))
def b_law_statement : Ss := (.cons (.asg (.nm 3) (.lst .nil)) (.cons (.forr (.nm 4) (.rng (.cons (.bin .add (.cst (.int 1)) (.call 13 (.cons (.var 0) (.cons (.var 2) .nil)))) .nil)) (.cons (.asg (.nm 5) (.ix (.tup (.cons (.cst (.str "read")) (.cons (.cst (.str "write")) (.cons (.cst (.str "hold")) (.cons (.cst (.str "add")) .nil))))) (.call 13 (.cons (.var 0) (.cons (.cst (.int 4)) .nil))))) (.cons (.asg (.nm 6) (.ix (.var 1) (.call 13 (.cons (.var 0) (.cons (.bi .len (.cons (.var 1) .nil)) .nil))))) (.cons (.asg (.nm 7) (.ite (.cmp .eq (.var 5) (.cst (.str "read"))) (.cst (.str "hold")) (.ite (.cmp .eq (.var 5) (.cst (.str "hold"))) (.cst (.str "read")) (.var 5)))) (.cons (.iff (.bop true (.cmp .notIn (.bin .add (.tup (.cons (.var 5) .nil)) (.var 6)) (.var 3)) (.cmp .notIn (.bin .add (.tup (.cons (.var 7) .nil)) (.var 6)) (.var 3))) (.cons (.ex (.mm .append 3 (.cons (.bin .add (.tup (.cons (.var 5) .nil)) (.var 6)) .nil))) .nil) .nil) .nil))))) (.cons (.ret (.bi .tuple (.cons (.var 3) .nil))) .nil)))
def b_law_deal : Ss := (.cons (.asg (.nm 5) (.lst .nil)) (.cons (.forr (.nm 6) (.rng (.cons (.bin .add (.cst (.int 1)) (.call 13 (.cons (.var 0) (.cons (.var 2) .nil)))) .nil)) (.cons (.asg (.nm 7) (.lc [8] (.nm 8) (.rng (.cons (.bin .add (.cst (.int 1)) (.call 13 (.cons (.var 0) (.cons (.var 3) .nil)))) .nil)) .no (.call 18 (.cons (.var 0) (.cons (.var 1) (.cons (.var 4) .nil)))))) (.cons (.ex (.mm .append 5 (.cons (.tup (.cons (.ix (.tup (.cons (.cst (.str "now")) (.cons (.cst (.str "begin")) .nil))) (.call 13 (.cons (.var 0) (.cons (.cst (.int 2)) .nil)))) (.cons (.bi .tuple (.cons (.var 7) .nil)) .nil))) .nil))) .nil))) (.cons (.ret (.bi .tuple (.cons (.var 5) .nil))) .nil)))
def b_law_same : Ss := (.cons (.iff (.isi (.var 1) [.int]) (.cons (.ret (.bop true (.isi (.var 0) [.int]) (.bop true (.not (.isi (.var 0) [.bool])) (.cmp .eq (.var 0) (.var 1))))) .nil) .nil) (.cons (.iff (.bop false (.not (.isi (.var 0) [.tuple])) (.cmp .ne (.bi .len (.cons (.var 0) .nil)) (.bi .len (.cons (.var 1) .nil)))) (.cons (.ret (.cst (.bl false))) .nil) .nil) (.cons (.forr (.nm 2) (.rng (.cons (.bi .len (.cons (.var 1) .nil)) .nil)) (.cons (.iff (.not (.call 20 (.cons (.ix (.var 0) (.var 2)) (.cons (.ix (.var 1) (.var 2)) .nil)))) (.cons (.ret (.cst (.bl false))) .nil) .nil) .nil)) (.cons (.ret (.cst (.bl true))) .nil))))
def b_law_steps : Ss := (.cons (.asg (.nm 1) (.lst .nil)) (.cons (.forr (.nm 2) (.rng (.cons (.bi .len (.cons (.var 0) .nil)) .nil)) (.cons (.asg (.nm 3) (.lst .nil)) (.cons (.forr (.nm 4) (.rng (.cons (.bi .len (.cons (.ix (.ix (.var 0) (.var 2)) (.cst (.int 1))) .nil)) .nil)) (.cons (.asg (.nm 5) (.ix (.ix (.ix (.var 0) (.var 2)) (.cst (.int 1))) (.var 4))) (.cons (.forr (.nm 6) (.rng (.cons (.bi .len (.cons (.var 5) .nil)) .nil)) (.cons (.asg (.nm 7) (.bop true (.cmp .isIn (.ix (.ix (.var 5) (.var 6)) (.cst (.int 0))) (.tup (.cons (.cst (.str "read")) (.cons (.cst (.str "hold")) .nil)))) (.cmp .isIn (.sl (.ix (.var 5) (.var 6)) (.yes (.cst (.int 1))) .no) (.var 3)))) (.cons (.ex (.mm .append 1 (.cons (.tup (.cons (.tup (.cons (.var 2) (.cons (.var 4) (.cons (.var 6) .nil)))) (.cons (.ix (.var 5) (.var 6)) (.cons (.var 7) .nil)))) .nil))) .nil))) (.cons (.ex (.mm .extend 3 (.cons (.lc [8] (.nm 8) (.e (.var 5)) (.yes (.cmp .eq (.ix (.var 8) (.cst (.int 0))) (.cst (.str "write")))) (.sl (.var 8) (.yes (.cst (.int 1))) .no)) .nil))) .nil)))) .nil))) (.cons (.ret (.var 1)) .nil)))
def b_law_clash : Ss := (.cons (.asg (.nm 2) (.bi .sorted (.cons (.lst (.cons (.var 0) (.cons (.var 1) .nil))) .nil))) (.cons (.ret (.cmp .isIn (.var 2) (.lst (.cons (.lst (.cons (.cst (.str "hold")) (.cons (.cst (.str "write")) .nil))) (.cons (.lst (.cons (.cst (.str "add")) (.cons (.cst (.str "write")) .nil))) (.cons (.lst (.cons (.cst (.str "write")) (.cons (.cst (.str "write")) .nil))) (.cons (.lst (.cons (.cst (.str "add")) (.cons (.cst (.str "hold")) .nil))) .nil))))))) .nil))
def b_law_pairs : Ss := (.cons (.asg (.nm 3) (.lst .nil)) (.cons (.forr (.tup [(.nm 4), (.nm 5), (.nm 6)]) (.e (.call 21 (.cons (.var 0) .nil))) (.cons (.forr (.tup [(.nm 7), (.nm 8), (.nm 9)]) (.e (.call 21 (.cons (.var 1) .nil))) (.cons (.iff (.cmp .eq (.sl (.var 5) (.yes (.cst (.int 1))) .no) (.sl (.var 8) (.yes (.cst (.int 1))) .no)) (.cons (.asg (.nm 10) (.bi .sorted (.cons (.lst (.cons (.ix (.var 5) (.cst (.int 0))) (.cons (.ix (.var 8) (.cst (.int 0))) .nil))) .nil))) (.cons (.iff (.bop true (.call 22 (.cons (.ix (.var 5) (.cst (.int 0))) (.cons (.ix (.var 8) (.cst (.int 0))) .nil))) (.not (.bop true (.var 2) (.bop false (.var 6) (.var 9))))) (.cons (.ex (.mm .append 3 (.cons (.tup (.cons (.var 4) (.cons (.var 7) .nil))) .nil))) .nil) (.cons (.iff (.bop true (.var 2) (.bop true (.not (.var 6)) (.bop true (.not (.var 9)) (.cmp .isIn (.var 10) (.lst (.cons (.lst (.cons (.cst (.str "read")) (.cons (.cst (.str "write")) .nil))) (.cons (.lst (.cons (.cst (.str "add")) (.cons (.cst (.str "read")) .nil))) .nil))))))) (.cons (.ex (.mm .append 3 (.cons (.tup (.cons (.var 4) (.cons (.var 7) .nil))) .nil))) .nil) .nil) .nil)) .nil)) .nil) .nil)) .nil)) (.cons (.ret (.bi .tuple (.cons (.bi .sorted (.cons (.var 3) .nil)) .nil))) .nil)))
def b_law_mixed : Ss := (.cons (.asg (.nm 2) (.lst .nil)) (.cons (.forr (.nm 3) (.rng (.cons (.cst (.int 3)) .nil)) (.cons (.asg (.nm 7) (.ix (.tup (.cons (.cst (.str "read")) (.cons (.cst (.str "hold")) (.cons (.cst (.str "add")) (.cons (.cst (.str "write")) .nil))))) (.call 13 (.cons (.var 0) (.cons (.cst (.int 4)) .nil))))) (.cons (.ex (.mm .append 2 (.cons (.tup (.cons (.bin .add (.tup (.cons (.var 7) .nil)) (.ix (.var 1) (.call 13 (.cons (.var 0) (.cons (.cst (.int 2)) .nil))))) .nil)) .nil))) .nil))) (.cons (.asg (.nm 4) (.bin .add (.tup (.cons (.ix (.tup (.cons (.cst (.str "read")) (.cons (.cst (.str "hold")) .nil))) (.call 13 (.cons (.var 0) (.cons (.cst (.int 2)) .nil)))) .nil)) (.ix (.var 1) (.cst (.int 0))))) (.cons (.ex (.mm .insert 2 (.cons (.call 13 (.cons (.var 0) (.cons (.cst (.int 4)) .nil))) (.cons (.tup (.cons (.bin .add (.tup (.cons (.cst (.str "write")) .nil)) (.ix (.var 1) (.cst (.int 0)))) (.cons (.var 4) .nil))) .nil)))) (.cons (.ex (.mm .append 2 (.cons (.tup (.cons (.var 4) .nil)) .nil))) (.cons (.asg (.nm 5) (.call 13 (.cons (.var 0) (.cons (.cst (.int 6)) .nil)))) (.cons (.asg (.nm 6) (.ite (.cmp2 .lt .lt (.cst (.int 0)) (.var 5) (.cst (.int 5))) (.lst (.cons (.frz (.sl (.var 2) .no (.yes (.var 5)))) (.cons (.frz (.sl (.var 2) (.yes (.var 5)) .no)) .nil))) (.lst (.cons (.var 2) .nil)))) (.cons (.ret (.bi .tuple (.cons (.lc [8] (.nm 8) (.e (.var 6)) .no (.tup (.cons (.ix (.tup (.cons (.cst (.str "now")) (.cons (.cst (.str "begin")) .nil))) (.call 13 (.cons (.var 0) (.cons (.cst (.int 2)) .nil)))) (.cons (.bi .tuple (.cons (.var 8) .nil)) .nil)))) .nil))) .nil))))))))
def b_law : Ss := (.cons (.asg (.nm 1) (.call 12 (.cons (.var 0) .nil))) (.cons (.asg (.nm 2) (.call 17 (.cons (.var 1) (.cons (.cst (.int 4)) .nil)))) (.cons (.asg (.nm 3) (.lst (.cons (.call 24 (.cons (.var 1) (.cons (.var 2) .nil))) (.cons (.call 24 (.cons (.var 1) (.cons (.var 2) .nil))) .nil)))) (.cons (.asg (.nm 4) (.sl (.var 2) .no (.yes (.bin .add (.cst (.int 1)) (.call 13 (.cons (.var 1) (.cons (.cst (.int 4)) .nil))))))) (.cons (.forr (.nm 5) (.rng (.cons (.cst (.int 3)) .nil)) (.cons (.ex (.mm .append 3 (.cons (.call 19 (.cons (.var 1) (.cons (.var 4) (.cons (.cst (.int 3)) (.cons (.cst (.int 3)) (.cons (.cst (.int 3)) .nil)))))) .nil))) .nil)) (.cons (.ex (.mm .append 3 (.cons (.call 19 (.cons (.var 1) (.cons (.var 2) (.cons (.cst (.int 1)) (.cons (.cst (.int 8)) (.cons (.cst (.int 4)) .nil)))))) .nil))) (.cons (.forr (.nm 6) (.e (.var 3)) (.cons (.forr (.tup [(.nm 10), (.nm 11), (.nm 12)]) (.e (.call 21 (.cons (.var 6) .nil))) (.cons (.asg (.nm 13) (.call 5 (.cons (.var 6) (.cons (.var 10) .nil)))) (.cons (.iff (.bop false (.not (.isi (.var 13) [.bool])) (.cmp .ne (.var 13) (.var 12))) (.cons (.ret (.cst (.bl false))) .nil) .nil) .nil))) .nil)) (.cons (.forr (.tup [(.nm 8), (.nm 9)]) (.e (.tup (.cons (.tup (.cons (.cst (.int 0)) (.cons (.cst (.int 1)) .nil))) (.cons (.tup (.cons (.cst (.int 0)) (.cons (.cst (.int 2)) .nil))) (.cons (.tup (.cons (.cst (.int 2)) (.cons (.cst (.int 3)) .nil))) (.cons (.tup (.cons (.cst (.int 4)) (.cons (.cst (.int 5)) .nil))) (.cons (.tup (.cons (.cst (.int 5)) (.cons (.cst (.int 1)) .nil))) (.cons (.tup (.cons (.cst (.int 3)) (.cons (.cst (.int 3)) .nil))) .nil)))))))) (.cons (.iff (.not (.call 20 (.cons (.call 10 (.cons (.ix (.var 3) (.var 8)) (.cons (.ix (.var 3) (.var 9)) .nil))) (.cons (.call 23 (.cons (.ix (.var 3) (.var 8)) (.cons (.ix (.var 3) (.var 9)) (.cons (.cst (.bl true)) .nil)))) .nil)))) (.cons (.ret (.cst (.bl false))) .nil) .nil) (.cons (.iff (.not (.call 20 (.cons (.call 11 (.cons (.ix (.var 3) (.var 8)) (.cons (.ix (.var 3) (.var 9)) .nil))) (.cons (.call 23 (.cons (.ix (.var 3) (.var 8)) (.cons (.ix (.var 3) (.var 9)) (.cons (.cst (.bl false)) .nil)))) .nil)))) (.cons (.ret (.cst (.bl false))) .nil) .nil) .nil))) (.cons (.asg (.nm 7) (.call 10 (.cons (.ix (.var 3) (.cst (.int 1))) (.cons (.ix (.var 3) (.cst (.int 0))) .nil)))) (.cons (.ret (.call 20 (.cons (.var 7) (.cons (.call 23 (.cons (.ix (.var 3) (.cst (.int 1))) (.cons (.ix (.var 3) (.cst (.int 0))) (.cons (.cst (.bl true)) .nil)))) .nil)))) .nil))))))))))
def T : List Fd := [⟨1, 1, b_is_change⟩, ⟨2, 2, b_kinds_clash⟩, ⟨2, 2, b_kinds_meet⟩, ⟨1, 8, b_places_of⟩, ⟨2, 2, b_step_at⟩, ⟨2, 7, b_is_own⟩, ⟨1, 2, b_placed_steps⟩, ⟨1, 12, b_open_steps⟩, ⟨2, 2, b_steps_meet⟩, ⟨2, 2, b_steps_clash⟩, ⟨2, 8, b_meetings_of⟩, ⟨2, 8, b_clashes_of⟩, ⟨1, 6, b_law_pool⟩, ⟨2, 3, b_law_draw⟩, ⟨2, 6, b_law_order⟩, ⟨4, 6, b_law_word⟩, ⟨1, 3, b_law_column⟩, ⟨2, 10, b_law_slots⟩, ⟨3, 8, b_law_statement⟩, ⟨5, 9, b_law_deal⟩, ⟨2, 3, b_law_same⟩, ⟨1, 9, b_law_steps⟩, ⟨2, 3, b_law_clash⟩, ⟨3, 11, b_law_pairs⟩, ⟨2, 9, b_law_mixed⟩, ⟨1, 14, b_law⟩]
end K05

set_option Elab.async false
set_option linter.all false
set_option maxRecDepth 100000
set_option maxHeartbeats 4000000
/-! K05A: places, steps, own steps. -/
namespace Aw.L05
open PySem K05
abbrev Pl := Nat × Nat × Nat
abbrev Ent := Pl × St3 × Bool
def ePl (p : Pl) : D := .tup [.int (p.1 : Int), .int (p.2.1 : Int), .int (p.2.2 : Int)]
def isRH (z : Str) : Bool := Str.ofString "read" == z || Str.ofString "hold" == z
def wr (c : Str × Str) (st : List St3) : Bool := st.any fun x => decide (x = (Str.ofString "write", c.1, c.2))
def ownB (prev : List (List St3)) (s : St3) : Bool := isRH s.1 && prev.any (wr s.2)
def opS (i : Nat) (sts : List (List St3)) (j : Nat) (st : List St3) : List Ent := encI (fun k s => ((i, j, k), s, ownB (sts.take j) s)) 0 st
def opA (i : Nat) (p : Pc) : List Ent := flatI (opS i p.2) 0 p.2
def opP (t : List Pc) : List Ent := flatI opA 0 t
theorem opA_len {p : Pc} (h : GoodSts p.2) (i : Nat) : (opA i p).length ≤ 300 := by
  have q := flatI_len (opS i p.2) 30 0 p.2 fun st m j => by
    rw [opS, encI_len]
    exact (h.st st m).1
  have := h.len
  unfold opA
  omega
theorem opP_len {t : List Pc} (h : Good t) : (opP t).length ≤ 3000 := by
  have q := flatI_len opA 300 0 t fun p m i => opA_len (h.pc p m) i
  have := h.len
  unfold opP
  omega
theorem op_mem {t : List Pc} {e : Ent} (m : e ∈ opP t) : ∃ i j k p st s, t[i]? = some p ∧ p.2[j]? = some st ∧ st[k]? = some s ∧ e = ((i, j, k), s, ownB (p.2.take j) s) := by
  obtain ⟨i, p, h1, m⟩ := flatI_mem m
  obtain ⟨j, st, h2, m⟩ := flatI_mem m
  obtain ⟨k, s, h3, m⟩ := encI_mem m
  simp only [Nat.zero_add] at m
  exact ⟨i, j, k, p, st, s, h1, h2, h3, m⟩

/-! ### places_of -/
def e_lc3 : E := .lc [7] (.nm 7) (.rng (.cons (.bi .len (.cons (.var 6) .nil)) .nil)) .no (.tup (.cons (.var 2) (.cons (.var 5) (.cons (.var 7) .nil))))
def s_in3 : S := .forr (.tup [(.nm 5), (.nm 6)]) (.enum (.var 4)) (.cons (.ex (.mm .extend 1 (.cons e_lc3 .nil))) .nil)
def s_out3 : S := .forr (.tup [(.nm 2), (.tup [(.nm 3), (.nm 4)])]) (.enum (.var 0)) (.cons s_in3 .nil)
theorem b_of_eq : b_places_of = .cons (.asg (.nm 1) (.lst .nil)) (.cons s_out3 (.cons (.ret (.bi .tuple (.cons (.var 1) .nil))) .nil)) := rfl
def plS (i j : Nat) (st : List St3) : List D := encI (fun k (_ : St3) => ePl (i, j, k)) 0 st
def plA (i : Nat) (p : Pc) : List D := flatI (plS i) 0 p.2
theorem pl_eq (t : List Pc) : (opP t).map (fun e => ePl e.1) = flatI plA 0 t := by
  unfold opP
  rw [flatI_map]
  congr 1
  funext i p
  unfold opA plA
  rw [flatI_map]
  congr 1
  funext j st
  unfold opS plS
  rw [encI_map]
theorem pl_fz {ps : List Pl} : fzns (ps.map ePl) = true := (fzns_iff _).mpr fun x m => by obtain ⟨p, _, rfl⟩ := List.mem_map.mp m; rfl
theorem plS_fz (i j : Nat) (st : List St3) : fzns (plS i j st) = true := (fzns_iff _).mpr fun x m => by
  obtain ⟨k, a, _, rfl⟩ := encI_mem m
  rfl
theorem lc3 {C : Ct} {x0 x1 x3 x4 : Option D} {i j : Nat} {st : List St3} (hC : C.np = 1) (hk : C.lk = []) (hl : st.length ≤ 30) :
    ev C e_lc3 .read [x0, x1, some (.int (i : Int)), x3, x4, some (.int (j : Int)), some (eSt st), none] = .ok (.own (.lst false (plS i j st))) [x0, x1, some (.int (i : Int)), x3, x4, some (.int (j : Int)), some (eSt st), none] := by
  obtain ⟨np, args, cf, wf, lk⟩ := C
  obtain rfl : np = 1 := hC
  obtain rfl : lk = [] := hk
  have he : evi ⟨1, args, cf, wf, []⟩ (.rng (.cons (.bi .len (.cons (.var 6) .nil)) .nil)) [x0, x1, some (.int (i : Int)), x3, x4, some (.int (j : Int)), some (eSt st), none] =
      .ok (encI (fun k (_ : St3) => D.int (k : Int)) 0 st, []) [x0, x1, some (.int (i : Int)), x3, x4, some (.int (j : Int)), some (eSt st), none] := by
    rw [← enc_rng]
    simp [callF, hasSub, frzO, isDct, evd, keyOk, keyOk1, finF, exSs, exS, ev, evs, evo, evc, evi, R.bind, R.then, evVar, gt, fin, val, two, many, Opd.get, dIx, L2.atI, L2.ixN, only, D.fzn, fzns, dCmp, gets, dBi, dBin, dAug, dNeg, asgS, asgT, asgTs, put, mayAsg, subK, augK, retV, fins, dTru, dLen, owns, opnds, mmR, dMm, Mm.md, callR0, callR, noExc, takes, puts, isTys, isTy, items, seqItems, grdOf, gOk, Ct.lock, clear, back, clearOk, D.fz, fzs, dSl, bound, D.isNon, lcR, dEq, D.plain, plains, D.dep, deps, deq, deqs, dIn, (by decide : 1 ≤ sizeLine), (by decide : 2 ≤ sizeLine), (by decide : 3 ≤ sizeLine), (by decide : 4 ≤ sizeLine), (by decide : 5 ≤ sizeLine), (by decide : 6 ≤ sizeLine), eSt, rng1 (n := st.length) (by omega)]
  have z := lc_ix (own := [7]) (t := .nm 7) (c := .no) (e := .tup (.cons (.var 2) (.cons (.var 5) (.cons (.var 7) .nil)))) (md := .read) (by intro h; cases h) st (fun _ _ => true) (fun k _ => ePl (i, j, k)) he rfl rfl fun k s hs => ⟨_, rfl, rfl, fun _ => by simp [callF, hasSub, frzO, isDct, evd, keyOk, keyOk1, finF, exSs, exS, ev, evs, evo, evc, evi, R.bind, R.then, evVar, gt, fin, val, two, many, Opd.get, dIx, L2.atI, L2.ixN, only, D.fzn, fzns, dCmp, gets, dBi, dBin, dAug, dNeg, asgS, asgT, asgTs, put, mayAsg, subK, augK, retV, fins, dTru, dLen, owns, opnds, mmR, dMm, Mm.md, callR0, callR, noExc, takes, puts, isTys, isTy, items, seqItems, grdOf, gOk, Ct.lock, clear, back, clearOk, D.fz, fzs, dSl, bound, D.isNon, lcR, dEq, D.plain, plains, D.dep, deps, deq, deqs, dIn, (by decide : 1 ≤ sizeLine), (by decide : 2 ≤ sizeLine), (by decide : 3 ≤ sizeLine), (by decide : 4 ≤ sizeLine), (by decide : 5 ≤ sizeLine), (by decide : 6 ≤ sizeLine), ePl], rfl, rfl⟩
  rw [mapI_all] at z
  exact z
theorem in3 {C : Ct} (hC : C.np = 1) (hk : C.lk = []) {F0 : List D} {p : Pc} {i : Nat} {x0 x3 x5 x6 : Option D} (hg : GoodSts p.2) (hF : F0.length ≤ 300 * i) (hi : i ≤ 10) :
    ∃ y5 y6, exS C s_in3 [x0, some (.lst false F0), some (.int (i : Int)), x3, some (.tup (p.2.map eSt)), x5, x6, none] = .nx [x0, some (.lst false (F0 ++ plA i p)), some (.int (i : Int)), x3, some (.tup (p.2.map eSt)), y5, y6, none] := by
  obtain ⟨np, args, cf, wf, lk⟩ := C
  obtain rfl : np = 1 := hC
  obtain rfl : lk = [] := hk
  have he : evi ⟨1, args, cf, wf, []⟩ (.enum (.var 4)) [x0, some (.lst false F0), some (.int (i : Int)), x3, some (.tup (p.2.map eSt)), x5, x6, none] =
      .ok (encI (fun j st => D.tup [.int (j : Int), eSt st]) 0 p.2, []) [x0, some (.lst false F0), some (.int (i : Int)), x3, some (.tup (p.2.map eSt)), x5, x6, none] := by
    rw [← enc_enum]
    simp [callF, hasSub, frzO, isDct, evd, keyOk, keyOk1, finF, exSs, exS, ev, evs, evo, evc, evi, R.bind, R.then, evVar, gt, fin, val, two, many, Opd.get, dIx, L2.atI, L2.ixN, only, D.fzn, fzns, dCmp, gets, dBi, dBin, dAug, dNeg, asgS, asgT, asgTs, put, mayAsg, subK, augK, retV, fins, dTru, dLen, owns, opnds, mmR, dMm, Mm.md, callR0, callR, noExc, takes, puts, isTys, isTy, items, seqItems, grdOf, gOk, Ct.lock, clear, back, clearOk, D.fz, fzs, dSl, bound, D.isNon, lcR, dEq, D.plain, plains, D.dep, deps, deq, deqs, dIn, (by decide : 1 ≤ sizeLine), (by decide : 2 ≤ sizeLine), (by decide : 3 ≤ sizeLine), (by decide : 4 ≤ sizeLine), (by decide : 5 ≤ sizeLine), (by decide : 6 ≤ sizeLine), eSt_fz]
  obtain ⟨ρ', h1, h2⟩ := for_ix (C := ⟨1, args, cf, wf, []⟩) (t := .tup [(.nm 5), (.nm 6)]) (b := .cons (.ex (.mm .extend 1 (.cons e_lc3 .nil))) .nil) p.2 (fun F j st => F ++ plS i j st)
    (fun j F ρ => F.length ≤ 300 * i + 30 * j ∧ ∃ y5 y6, ρ = [x0, some (.lst false F), some (.int (i : Int)), x3, some (.tup (p.2.map eSt)), y5, y6, none]) F0 he rfl ⟨by omega, _, _, rfl⟩
    fun j st F ρ hj ⟨hl, y5, y6, e⟩ => by
      subst e
      have hm := hg.st st (List.mem_of_getElem? hj)
      have hjl : j < p.2.length := (List.getElem?_eq_some_iff.mp hj).1
      have := hg.len
      have l3 : F.length + (plS i j st).length ≤ sizeLine := enough' (by rw [plS, encI_len]; omega)
      refine ⟨[x0, some (.lst false F), some (.int (i : Int)), x3, some (.tup (p.2.map eSt)), some (.int (j : Int)), some (eSt st), none], [x0, some (.lst false (F ++ plS i j st)), some (.int (i : Int)), x3, some (.tup (p.2.map eSt)), some (.int (j : Int)), some (eSt st), none], by simp [callF, hasSub, frzO, isDct, evd, keyOk, keyOk1, finF, exSs, exS, ev, evs, evo, evc, evi, R.bind, R.then, evVar, gt, fin, val, two, many, Opd.get, dIx, L2.atI, L2.ixN, only, D.fzn, fzns, dCmp, gets, dBi, dBin, dAug, dNeg, asgS, asgT, asgTs, put, mayAsg, subK, augK, retV, fins, dTru, dLen, owns, opnds, mmR, dMm, Mm.md, callR0, callR, noExc, takes, puts, isTys, isTy, items, seqItems, grdOf, gOk, Ct.lock, clear, back, clearOk, D.fz, fzs, dSl, bound, D.isNon, lcR, dEq, D.plain, plains, D.dep, deps, deq, deqs, dIn, (by decide : 1 ≤ sizeLine), (by decide : 2 ≤ sizeLine), (by decide : 3 ≤ sizeLine), (by decide : 4 ≤ sizeLine), (by decide : 5 ≤ sizeLine), (by decide : 6 ≤ sizeLine)], .inl ?_, rfl, by rw [List.length_append, plS, encI_len]; omega, _, _, rfl⟩
      simp [callF, hasSub, frzO, isDct, evd, keyOk, keyOk1, finF, exSs, exS, ev, evs, evo, evc, evi, R.bind, R.then, evVar, gt, fin, val, two, many, Opd.get, only, D.fzn, fzns, dCmp, gets, dBi, dBin, dAug, dNeg, asgS, asgT, asgTs, put, mayAsg, subK, augK, retV, fins, dTru, dLen, owns, opnds, mmR, dMm, Mm.md, callR0, callR, noExc, takes, puts, isTys, isTy, items, seqItems, grdOf, gOk, Ct.lock, clear, back, clearOk, D.fz, fzs, dSl, bound, D.isNon, lcR, dEq, D.plain, plains, D.dep, deps, deq, deqs, dIn, (by decide : 1 ≤ sizeLine), (by decide : 2 ≤ sizeLine), (by decide : 3 ≤ sizeLine), (by decide : 4 ≤ sizeLine), (by decide : 5 ≤ sizeLine), (by decide : 6 ≤ sizeLine), lc3 (C := ⟨1, args, cf, wf, []⟩) rfl rfl hm.1, plS_fz, l3]
  obtain ⟨_, y5, y6, rfl⟩ := h2
  rw [foldI_app] at h1
  exact ⟨y5, y6, h1⟩
theorem out3 {C : Ct} (hC : C.np = 1) (hk : C.lk = []) {t : List Pc} (hg : Good t) :
    ∃ y2 y3 y4 y5 y6, exS C s_out3 [some (eD t), some (.lst false []), none, none, none, none, none, none] = .nx [some (eD t), some (.lst false (flatI plA 0 t)), y2, y3, y4, y5, y6, none] := by
  obtain ⟨np, args, cf, wf, lk⟩ := C
  obtain rfl : np = 1 := hC
  obtain rfl : lk = [] := hk
  have he : evi ⟨1, args, cf, wf, []⟩ (.enum (.var 0)) [some (eD t), some (.lst false []), none, none, none, none, none, none] =
      .ok (encI (fun i p => D.tup [.int (i : Int), eP p]) 0 t, []) [some (eD t), some (.lst false []), none, none, none, none, none, none] := by
    rw [← enc_enum]
    simp [callF, hasSub, frzO, isDct, evd, keyOk, keyOk1, finF, exSs, exS, ev, evs, evo, evc, evi, R.bind, R.then, evVar, gt, fin, val, two, many, Opd.get, dIx, L2.atI, L2.ixN, only, D.fzn, fzns, dCmp, gets, dBi, dBin, dAug, dNeg, asgS, asgT, asgTs, put, mayAsg, subK, augK, retV, fins, dTru, dLen, owns, opnds, mmR, dMm, Mm.md, callR0, callR, noExc, takes, puts, isTys, isTy, items, seqItems, grdOf, gOk, Ct.lock, clear, back, clearOk, D.fz, fzs, dSl, bound, D.isNon, lcR, dEq, D.plain, plains, D.dep, deps, deq, deqs, dIn, (by decide : 1 ≤ sizeLine), (by decide : 2 ≤ sizeLine), (by decide : 3 ≤ sizeLine), (by decide : 4 ≤ sizeLine), (by decide : 5 ≤ sizeLine), (by decide : 6 ≤ sizeLine), eD, eP_fz]
  obtain ⟨ρ', h1, h2⟩ := for_ix (C := ⟨1, args, cf, wf, []⟩) (t := .tup [(.nm 2), (.tup [(.nm 3), (.nm 4)])]) (b := .cons s_in3 .nil) t (fun F i p => F ++ plA i p)
    (fun i F ρ => F.length ≤ 300 * i ∧ ∃ y2 y3 y4 y5 y6, ρ = [some (eD t), some (.lst false F), y2, y3, y4, y5, y6, none]) [] he rfl ⟨by simp, _, _, _, _, _, rfl⟩
    fun i p F ρ hi ⟨hl, y2, y3, y4, y5, y6, e⟩ => by
      subst e
      have hp := hg.pc p (List.mem_of_getElem? hi)
      have hil : i < t.length := (List.getElem?_eq_some_iff.mp hi).1
      have := hg.len
      obtain ⟨z5, z6, e⟩ := in3 (C := ⟨1, args, cf, wf, []⟩) rfl rfl (F0 := F) (p := p) (i := i) (x0 := some (eD t)) (x3 := some (.str p.1)) (x5 := y5) (x6 := y6) hp hl (by omega)
      have pl : (plA i p).length ≤ 300 := by
        have q := flatI_len (plS i) 30 0 p.2 fun st m j => by
          rw [plS, encI_len]
          exact (hp.st st m).1
        have := hp.len
        unfold plA
        omega
      refine ⟨[some (eD t), some (.lst false F), some (.int (i : Int)), some (.str p.1), some (.tup (p.2.map eSt)), y5, y6, none], [some (eD t), some (.lst false (F ++ plA i p)), some (.int (i : Int)), some (.str p.1), some (.tup (p.2.map eSt)), z5, z6, none], by simp [callF, hasSub, frzO, isDct, evd, keyOk, keyOk1, finF, exSs, exS, ev, evs, evo, evc, evi, R.bind, R.then, evVar, gt, fin, val, two, many, Opd.get, dIx, L2.atI, L2.ixN, only, D.fzn, fzns, dCmp, gets, dBi, dBin, dAug, dNeg, asgS, asgT, asgTs, put, mayAsg, subK, augK, retV, fins, dTru, dLen, owns, opnds, mmR, dMm, Mm.md, callR0, callR, noExc, takes, puts, isTys, isTy, items, seqItems, grdOf, gOk, Ct.lock, clear, back, clearOk, D.fz, fzs, dSl, bound, D.isNon, lcR, dEq, D.plain, plains, D.dep, deps, deq, deqs, dIn, (by decide : 1 ≤ sizeLine), (by decide : 2 ≤ sizeLine), (by decide : 3 ≤ sizeLine), (by decide : 4 ≤ sizeLine), (by decide : 5 ≤ sizeLine), (by decide : 6 ≤ sizeLine), eP, eSt_fz], .inl ?_, rfl, by rw [List.length_append]; omega, _, _, _, _, _, rfl⟩
      simp only [exSs]
      rw [show Ct.lock ⟨1, args, cf, wf, []⟩ [] = ⟨1, args, cf, wf, []⟩ from rfl, e]
  obtain ⟨_, y2, y3, y4, y5, y6, rfl⟩ := h2
  rw [foldI_app] at h1
  exact ⟨y2, y3, y4, y5, y6, h1⟩
theorem plA_fz (t : List Pc) : fzns (flatI plA 0 t) = true := by rw [← pl_eq, show (fun e : Ent => ePl e.1) = ePl ∘ Prod.fst from rfl, ← List.map_map]; exact pl_fz
theorem of_v {wf k : Nat} {t : List Pc} (hg : Good t) : callF T wf (k + 1) 3 [eD t] = .ok (.tup ((opP t).map fun e => ePl e.1)) [eD t] := by
  obtain ⟨y2, y3, y4, y5, y6, e⟩ := out3 (C := ⟨1, [eD t], callF T wf k, wf, []⟩) rfl rfl hg
  have hT : T[3]? = some ⟨1, 8, b_places_of⟩ := rfl
  rw [pl_eq]
  simp [callF, hasSub, frzO, isDct, evd, keyOk, keyOk1, finF, exSs, exS, ev, evs, evo, evc, evi, R.bind, R.then, evVar, gt, fin, val, two, many, Opd.get, only, D.fzn, fzns, dCmp, gets, dBi, dBin, dAug, dNeg, asgS, asgT, asgTs, put, mayAsg, subK, augK, retV, fins, dTru, dLen, owns, opnds, mmR, dMm, Mm.md, callR0, callR, noExc, takes, puts, isTys, isTy, items, seqItems, grdOf, gOk, Ct.lock, clear, back, clearOk, D.fz, fzs, dSl, bound, D.isNon, lcR, dEq, D.plain, plains, D.dep, deps, deq, deqs, dIn, (by decide : 1 ≤ sizeLine), (by decide : 2 ≤ sizeLine), (by decide : 3 ≤ sizeLine), (by decide : 4 ≤ sizeLine), (by decide : 5 ≤ sizeLine), (by decide : 6 ≤ sizeLine), hT, b_of_eq, e, eD_fz1, plA_fz, (by decide : 0 ≤ sizeLine)]

/-! ### step_at, is_own -/
theorem step_v {wf k : Nat} {t : List Pc} {i j l : Nat} {p : Pc} {st : List St3} {s : St3} (h1 : t[i]? = some p) (h2 : p.2[j]? = some st) (h3 : st[l]? = some s) :
    callF T wf (k + 1) 4 [eD t, ePl (i, j, l)] = .ok (eS s) [eD t, ePl (i, j, l)] := by
  have hT : T[4]? = some ⟨2, 2, b_step_at⟩ := rfl
  have a1 : dIx (eD t) (.int (i : Int)) = some (eP p) := ix_tup (by rw [List.getElem?_map, h1]; rfl)
  have a2 : dIx (.tup (p.2.map eSt)) (.int (j : Int)) = some (eSt st) := ix_tup (by rw [List.getElem?_map, h2]; rfl)
  have a3 : dIx (eSt st) (.int (l : Int)) = some (eS s) := ix_tup (by rw [List.getElem?_map, h3]; rfl)
  have a4 : dIx (eP p) (.int 1) = some (.tup (p.2.map eSt)) := ix_1
  have f1 := eP_fz1 p
  have f2 : (D.tup (p.2.map eSt)).fzn = true := by simp only [D.fzn]; exact eSt_fz _
  have f3 := eSt_fz1 st
  have f4 : (eS s).fzn = true := rfl
  have f5 := eD_fz1 t
  have f6 : (ePl (i, j, l)).fzn = true := rfl
  have b0 : dIx (ePl (i, j, l)) (.int 0) = some (.int (i : Int)) := ix_0
  have b1 : dIx (ePl (i, j, l)) (.int 1) = some (.int (j : Int)) := ix_1
  have b2 : dIx (ePl (i, j, l)) (.int 2) = some (.int (l : Int)) := ix_2
  simp only [callF, hT]
  simp [callF, hasSub, frzO, isDct, evd, keyOk, keyOk1, finF, exSs, exS, ev, evs, evo, evc, evi, R.bind, R.then, evVar, gt, fin, val, two, many, Opd.get, only, D.fzn, fzns, dCmp, gets, dBi, dBin, dAug, dNeg, asgS, asgT, asgTs, put, mayAsg, subK, augK, retV, fins, dTru, dLen, owns, opnds, mmR, dMm, Mm.md, callR0, callR, noExc, takes, puts, isTys, isTy, items, seqItems, grdOf, gOk, Ct.lock, clear, back, clearOk, D.fz, fzs, dSl, bound, D.isNon, lcR, dEq, D.plain, plains, D.dep, deps, deq, deqs, dIn, (by decide : 1 ≤ sizeLine), (by decide : 2 ≤ sizeLine), (by decide : 3 ≤ sizeLine), (by decide : 4 ≤ sizeLine), (by decide : 5 ≤ sizeLine), (by decide : 6 ≤ sizeLine), b_step_at, a1, a2, a3, a4, b0, b1, b2, eP_fz1, eSt_fz1, eSt_fz, f4, f5, f6]
end Aw.L05

set_option Elab.async false
set_option linter.all false
set_option maxRecDepth 100000
set_option maxHeartbeats 4000000
/-! K05B: own steps, open steps. -/
namespace Aw.L05
open PySem K05
theorem in_rh (z : Str) : dIn (.str z) (.tup [.str (Str.ofString "read"), .str (Str.ofString "hold")]) = some (isRH z) := by
  simp [dIn, D.plain, plains, D.dep, deq, isRH]
theorem in_st (c : Str × Str) (st : List St3) : dIn (.tup [.str (Str.ofString "write"), .str c.1, .str c.2]) (.tup (st.map eS)) = some (wr c st) := by
  have e : ∀ x : St3, deq (eS x) (.tup [.str (Str.ofString "write"), .str c.1, .str c.2]) = decide (x = (Str.ofString "write", c.1, c.2)) := fun x => by
    obtain ⟨a, b, d⟩ := x
    rw [Bool.eq_iff_iff]
    simp [eS, deq, deqs, Prod.ext_iff]
  simp [dIn, D.plain, plains, D.dep, deps, eS_pl, List.any_map, wr, Function.comp_def, e]
theorem dBools_map {α : Type} (f : α → Bool) : ∀ xs : List α, dBools (xs.map fun a => D.bl (f a)) = some (xs.map f)
  | [] => rfl
  | x :: xs => by simp only [List.map_cons, dBools, dBools_map f xs, Option.map_some]
def e_own : E := .lc [6] (.nm 6) (.e (.sl (.ix (.ix (.var 0) (.ix (.var 1) (.cst (.int 0)))) (.cst (.int 1))) .no (.yes (.ix (.var 1) (.cst (.int 1)))))) .no (.cmp .isIn (.var 2) (.var 6))
theorem own_lc {C : Ct} {t : List Pc} {i j l : Nat} {p : Pc} {c : Str × Str} {x3 x4 x5 : Option D} (hC : C.np = 2) (hk : C.lk = []) (h1 : t[i]? = some p) :
    ev C e_own .read [some (eD t), some (ePl (i, j, l)), some (.tup [.str (Str.ofString "write"), .str c.1, .str c.2]), x3, x4, x5, none] = .ok (.own (.lst false ((p.2.take j).map fun st => .bl (wr c st)))) [some (eD t), some (ePl (i, j, l)), some (.tup [.str (Str.ofString "write"), .str c.1, .str c.2]), x3, x4, x5, none] := by
  obtain ⟨np, args, cf, wf, lk⟩ := C
  obtain rfl : np = 2 := hC
  obtain rfl : lk = [] := hk
  have a1 : dIx (eD t) (.int (i : Int)) = some (eP p) := ix_tup (by rw [List.getElem?_map, h1]; rfl)
  have a4 : dIx (eP p) (.int 1) = some (.tup (p.2.map eSt)) := ix_1
  have b0 : dIx (ePl (i, j, l)) (.int 0) = some (.int (i : Int)) := ix_0
  have b1 : dIx (ePl (i, j, l)) (.int 1) = some (.int (j : Int)) := ix_1
  have he : evi ⟨2, args, cf, wf, []⟩ (.e (.sl (.ix (.ix (.var 0) (.ix (.var 1) (.cst (.int 0)))) (.cst (.int 1))) .no (.yes (.ix (.var 1) (.cst (.int 1)))))) [some (eD t), some (ePl (i, j, l)), some (.tup [.str (Str.ofString "write"), .str c.1, .str c.2]), x3, x4, x5, none] =
      .ok (encI (fun _ st => eSt st) 0 (p.2.take j), []) [some (eD t), some (ePl (i, j, l)), some (.tup [.str (Str.ofString "write"), .str c.1, .str c.2]), x3, x4, x5, none] := by
    rw [← enc_map, List.map_take]
    have zt : fzns (List.take j (p.2.map eSt)) = true := by rw [← List.map_take]; exact eSt_fz _
    simp [callF, hasSub, frzO, isDct, evd, keyOk, keyOk1, finF, exSs, exS, ev, evs, evo, evc, evi, R.bind, R.then, evVar, gt, fin, val, two, many, Opd.get, only, D.fzn, fzns, dCmp, gets, dBi, dBin, dAug, dNeg, asgS, asgT, asgTs, put, mayAsg, subK, augK, retV, fins, dTru, dLen, owns, opnds, mmR, dMm, Mm.md, callR0, callR, noExc, takes, puts, isTys, isTy, items, seqItems, grdOf, gOk, Ct.lock, clear, back, clearOk, D.fz, fzs, dSl, bound, D.isNon, lcR, dEq, D.plain, plains, D.dep, deps, deq, deqs, dIn, (by decide : 1 ≤ sizeLine), (by decide : 2 ≤ sizeLine), (by decide : 3 ≤ sizeLine), (by decide : 4 ≤ sizeLine), (by decide : 5 ≤ sizeLine), (by decide : 6 ≤ sizeLine), a1, a4, b0, b1, eP_fz1, eSt_fz, cut_take, zt]
  have z := lc_ix (own := [6]) (t := .nm 6) (c := .no) (e := .cmp .isIn (.var 2) (.var 6)) (md := .read) (by intro h; cases h) (p.2.take j) (fun _ _ => true) (fun _ st => D.bl (wr c st)) he rfl rfl fun k st hs => ⟨_, rfl, rfl, fun _ => by
    have q : dIn (.tup [.str (Str.ofString "write"), .str c.1, .str c.2]) (eSt st) = some (wr c st) := in_st c st
    simp [callF, hasSub, frzO, isDct, evd, keyOk, keyOk1, finF, exSs, exS, ev, evs, evo, evc, evi, R.bind, R.then, evVar, gt, fin, val, two, many, Opd.get, only, D.fzn, fzns, dCmp, gets, dBi, dBin, dAug, dNeg, asgS, asgT, asgTs, put, mayAsg, subK, augK, retV, fins, dTru, dLen, owns, opnds, mmR, dMm, Mm.md, callR0, callR, noExc, takes, puts, isTys, isTy, items, seqItems, grdOf, gOk, Ct.lock, clear, back, clearOk, D.fz, fzs, dSl, bound, D.isNon, lcR, dEq, D.plain, plains, D.dep, deps, deq, deqs, (by decide : 1 ≤ sizeLine), (by decide : 2 ≤ sizeLine), (by decide : 3 ≤ sizeLine), (by decide : 4 ≤ sizeLine), (by decide : 5 ≤ sizeLine), (by decide : 6 ≤ sizeLine), q], rfl, rfl⟩
  rw [mapI_all, ← enc_map] at z
  exact z
theorem b_own_eq : b_is_own = (.cons (.asg (.tup [(.nm 3), (.nm 4), (.nm 5)]) (.call 4 (.cons (.var 0) (.cons (.var 1) .nil)))) (.cons (.iff (.cmp .notIn (.var 3) (.tup (.cons (.cst (.str "read")) (.cons (.cst (.str "hold")) .nil)))) (.cons (.ret (.cst (.bl false))) .nil) .nil) (.cons (.asg (.nm 2) (.tup (.cons (.cst (.str "write")) (.cons (.var 4) (.cons (.var 5) .nil))))) (.cons (.ret (.bi .any (.cons e_own .nil))) .nil)))) := rfl
theorem own_v {wf k : Nat} {t : List Pc} {i j l : Nat} {p : Pc} {st : List St3} {s : St3} (h1 : t[i]? = some p) (h2 : p.2[j]? = some st) (h3 : st[l]? = some s) :
    callF T wf (k + 2) 5 [eD t, ePl (i, j, l)] = .ok (.bl (ownB (p.2.take j) s)) [eD t, ePl (i, j, l)] := by
  have hT : T[5]? = some ⟨2, 7, b_is_own⟩ := rfl
  have e4 := step_v (wf := wf) (k := k) h1 h2 h3
  have f5 := eD_fz1 t
  have f6 : (ePl (i, j, l)).fzn = true := rfl
  obtain ⟨kd, c⟩ := s
  have el := own_lc (C := ⟨2, [eD t, ePl (i, j, l)], callF T wf (k + 1), wf, []⟩) (t := t) (i := i) (j := j) (l := l) (p := p) (c := c) (x3 := some (.str kd)) (x4 := some (.str c.1)) (x5 := some (.str c.2)) rfl rfl h1
  have rh := in_rh kd
  rw [callF, hT]
  generalize callF T wf (k + 1) = cf at *
  generalize p.2.take j = pv at *
  cases hz : isRH kd with
  | false =>
    rw [hz] at rh
    simp [callF, hasSub, frzO, isDct, evd, keyOk, keyOk1, finF, exSs, exS, ev, evs, evo, evc, evi, R.bind, R.then, evVar, gt, fin, val, two, many, Opd.get, only, D.fzn, fzns, dCmp, gets, dBi, dBin, dAug, dNeg, asgS, asgT, asgTs, put, mayAsg, subK, augK, retV, fins, dTru, dLen, owns, opnds, mmR, dMm, Mm.md, callR0, callR, noExc, takes, puts, isTys, isTy, items, seqItems, grdOf, gOk, Ct.lock, clear, back, clearOk, D.fz, fzs, dSl, bound, D.isNon, lcR, dEq, D.plain, plains, D.dep, deps, deq, deqs, (by decide : 1 ≤ sizeLine), (by decide : 2 ≤ sizeLine), (by decide : 3 ≤ sizeLine), (by decide : 4 ≤ sizeLine), (by decide : 5 ≤ sizeLine), (by decide : 6 ≤ sizeLine), b_own_eq, e4, f5, f6, eS, rh, ownB, hz]
  | true =>
    rw [hz] at rh
    simp [callF, hasSub, frzO, isDct, evd, keyOk, keyOk1, finF, exSs, exS, ev, evs, evo, evc, evi, R.bind, R.then, evVar, gt, fin, val, two, many, Opd.get, only, D.fzn, fzns, dCmp, gets, dBi, dBin, dAug, dNeg, asgS, asgT, asgTs, put, mayAsg, subK, augK, retV, fins, dTru, dLen, owns, opnds, mmR, dMm, Mm.md, callR0, callR, noExc, takes, puts, isTys, isTy, items, seqItems, grdOf, gOk, Ct.lock, clear, back, clearOk, D.fz, fzs, dSl, bound, D.isNon, lcR, dEq, D.plain, plains, D.dep, deps, deq, deqs, (by decide : 1 ≤ sizeLine), (by decide : 2 ≤ sizeLine), (by decide : 3 ≤ sizeLine), (by decide : 4 ≤ sizeLine), (by decide : 5 ≤ sizeLine), (by decide : 6 ≤ sizeLine), b_own_eq, e4, f5, f6, eS, rh, ownB, hz, el, dBools_map, List.any_map, Function.comp_def]
/-! ### placed_steps -/
def eE (e : Ent) : D := .tup [ePl e.1, eS e.2.1]
theorem eE_fz (es : List Ent) : fzns (es.map eE) = true := (fzns_iff _).mpr fun x m => by obtain ⟨s, _, rfl⟩ := List.mem_map.mp m; rfl
theorem placed_v {wf k : Nat} {t : List Pc} (hg : Good t) : callF T wf (k + 2) 6 [eD t] = .ok (.lst false ((opP t).map eE)) [eD t] := by
  have hT : T[6]? = some ⟨1, 2, b_placed_steps⟩ := rfl
  have e3 := of_v (wf := wf) (k := k) hg
  have f5 := eD_fz1 t
  have st : ∀ e ∈ opP t, callF T wf (k + 1) 4 [eD t, ePl e.1] = .ok (eS e.2.1) [eD t, ePl e.1] := fun e m => by
    obtain ⟨i, j, l, p, st, s, h1, h2, h3, rfl⟩ := op_mem m
    exact step_v h1 h2 h3
  rw [callF, hT]
  generalize callF T wf (k + 1) = cf at *
  have he : evi ⟨1, [eD t], cf, wf, []⟩ (.e (.call 3 (.cons (.var 0) .nil))) [some (eD t), none] = .ok (encI (fun _ (e : Ent) => ePl e.1) 0 (opP t), []) [some (eD t), none] := by
    rw [← enc_map]
    have z : fzns ((opP t).map fun e => ePl e.1) = true := by rw [show (fun e : Ent => ePl e.1) = ePl ∘ Prod.fst from rfl, ← List.map_map]; exact pl_fz
    simp [callF, hasSub, frzO, isDct, evd, keyOk, keyOk1, finF, exSs, exS, ev, evs, evo, evc, evi, R.bind, R.then, evVar, gt, fin, val, two, many, Opd.get, dIx, L2.atI, L2.ixN, only, D.fzn, fzns, dCmp, gets, dBi, dBin, dAug, dNeg, asgS, asgT, asgTs, put, mayAsg, subK, augK, retV, fins, dTru, dLen, owns, opnds, mmR, dMm, Mm.md, callR0, callR, noExc, takes, puts, isTys, isTy, items, seqItems, grdOf, gOk, Ct.lock, clear, back, clearOk, D.fz, fzs, dSl, bound, D.isNon, lcR, dEq, D.plain, plains, D.dep, deps, deq, deqs, dIn, (by decide : 1 ≤ sizeLine), (by decide : 2 ≤ sizeLine), (by decide : 3 ≤ sizeLine), (by decide : 4 ≤ sizeLine), (by decide : 5 ≤ sizeLine), (by decide : 6 ≤ sizeLine), f5, e3, z]
  have z := lc_ix (own := [1]) (t := .nm 1) (c := .no) (e := .tup (.cons (.var 1) (.cons (.call 4 (.cons (.var 0) (.cons (.var 1) .nil))) .nil))) (md := .keep) (by intro h; cases h) (opP t) (fun _ _ => true) (fun _ e => eE e) he rfl rfl fun k e hs => ⟨[some (eD t), some (ePl e.1)], rfl, rfl, fun _ => by
    have q := st e (List.mem_of_getElem? hs)
    have f6 : (ePl e.1).fzn = true := rfl
    simp [callF, hasSub, frzO, isDct, evd, keyOk, keyOk1, finF, exSs, exS, ev, evs, evo, evc, evi, R.bind, R.then, evVar, gt, fin, val, two, many, Opd.get, only, D.fzn, fzns, dCmp, gets, dBi, dBin, dAug, dNeg, asgS, asgT, asgTs, put, mayAsg, subK, augK, retV, fins, dTru, dLen, owns, opnds, mmR, dMm, Mm.md, callR0, callR, noExc, takes, puts, isTys, isTy, items, seqItems, grdOf, gOk, Ct.lock, clear, back, clearOk, D.fz, fzs, dSl, bound, D.isNon, lcR, dEq, D.plain, plains, D.dep, deps, deq, deqs, dIn, (by decide : 1 ≤ sizeLine), (by decide : 2 ≤ sizeLine), (by decide : 3 ≤ sizeLine), (by decide : 4 ≤ sizeLine), (by decide : 5 ≤ sizeLine), (by decide : 6 ≤ sizeLine), f5, q, f6, eE], rfl, rfl⟩
  rw [mapI_all, ← enc_map] at z
  show finF [eD t] (exSs ⟨1, [eD t], cf, wf, []⟩ b_placed_steps [some (eD t), none]) = _
  have z' : ev ⟨1, [eD t], cf, wf, []⟩ (.lc [1] (.nm 1) (.e (.call 3 (.cons (.var 0) .nil))) .no (.tup (.cons (.var 1) (.cons (.call 4 (.cons (.var 0) (.cons (.var 1) .nil))) .nil)))) .keep [some (eD t), none] = .ok (.own (.lst false ((opP t).map eE))) [some (eD t), none] := z
  simp only [b_placed_steps, exSs, exS, z', R.then, finF, fins, f5, if_true]
end Aw.L05

set_option Elab.async false
set_option linter.all false
set_option maxRecDepth 100000
set_option maxHeartbeats 4000000
/-! K05C: open steps. -/
namespace Aw.L05
open PySem K05
def ky (c : Str × Str) : D := .tup [.str c.1, .str c.2]
theorem ky_same (a b : Str × Str) : (ky a).same (ky b) = decide (a = b) := by
  obtain ⟨a1, a2⟩ := a
  obtain ⟨b1, b2⟩ := b
  rw [Bool.eq_iff_iff]
  simp [ky, D.same, sames]
theorem has_put (a b : Str × Str) (ks : List D) : dHas (ky b) (dPutK (ky a) ks) = (dHas (ky b) ks || decide (a = b)) := by
  unfold dPutK
  by_cases h : dHas (ky a) ks = true
  · rw [if_pos h]
    by_cases e : a = b
    · subst e
      simp [h]
    · simp [e]
  · rw [if_neg h]
    unfold dHas
    rw [List.any_append]
    simp [ky_same]
def fo (e : Ent) : List D := if e.2.2 then [] else [eE e]
theorem flatI_enc {α β γ : Type} (f : β → List γ) (h : Nat → α → β) : ∀ (i : Nat) (xs : List α), flatI (fun k a => f (h k a)) i xs = (encI h i xs).flatMap f
  | _, [] => rfl
  | i, a :: r => by simp only [flatI, encI, List.flatMap_cons, flatI_enc f h (i + 1) r]
theorem flatI_flat {α β γ : Type} (f : β → List γ) (h : Nat → α → List β) : ∀ (i : Nat) (xs : List α), flatI (fun k a => (h k a).flatMap f) i xs = (flatI h i xs).flatMap f
  | _, [] => rfl
  | i, a :: r => by simp only [flatI, List.flatMap_append, flatI_flat f h (i + 1) r]
def b_i1 : Ss := .cons (.iff (.bop false (.cmp .notIn (.var 9) (.tup (.cons (.cst (.str "read")) (.cons (.cst (.str "hold")) .nil)))) (.cmp .notIn (.tup (.cons (.var 10) (.cons (.var 11) .nil))) (.var 3))) (.cons (.ex (.mm .append 1 (.cons (.tup (.cons (.tup (.cons (.var 2) (.cons (.var 6) (.cons (.var 8) .nil)))) (.cons (.tup (.cons (.var 9) (.cons (.var 10) (.cons (.var 11) .nil)))) .nil))) .nil))) .nil) .nil) .nil
def s_i1 : S := .forr (.tup [(.nm 8), (.tup [(.nm 9), (.nm 10), (.nm 11)])]) (.enum (.var 7)) b_i1
def b_i2 : Ss := .cons (.iff (.cmp .eq (.var 9) (.cst (.str "write"))) (.cons (.sub 3 (.tup (.cons (.var 10) (.cons (.var 11) .nil))) (.cst (.bl true))) .nil) .nil) .nil
def s_i2 : S := .forr (.tup [(.nm 9), (.nm 10), (.nm 11)]) (.e (.var 7)) b_i2
def s_i3 : S := .forr (.tup [(.nm 6), (.nm 7)]) (.enum (.var 5)) (.cons s_i1 (.cons s_i2 .nil))
def s_i4 : S := .forr (.tup [(.nm 2), (.tup [(.nm 4), (.nm 5)])]) (.enum (.var 0)) (.cons (.asg (.nm 3) (.dnew true)) (.cons s_i3 .nil))
theorem b_open_eq : b_open_steps = .cons (.asg (.nm 1) (.lst .nil)) (.cons s_i4 (.cons (.ret (.var 1)) .nil)) := rfl
section
variable {args : List D} {cf : Nat → List D → FR} {wf : Nat}
theorem i1 {t : List Pc} {F0 ks vs : List D} {i j : Nat} {sts : List (List St3)} {st : List St3} {x4 x5 x8 x9 x10 x11 : Option D} (hl : st.length ≤ 30) (hF : F0.length ≤ 3000) (hk : ∀ c, dHas (ky c) ks = (sts.take j).any (wr c)) :
    ∃ y8 y9 y10 y11, exS ⟨1, args, cf, wf, []⟩ s_i1 [some (eD t), some (.lst false F0), some (.int (i : Int)), some (.dct false true ks vs), x4, x5, some (.int (j : Int)), some (eSt st), x8, x9, x10, x11] =
      .nx [some (eD t), some (.lst false (F0 ++ (opS i sts j st).flatMap fo)), some (.int (i : Int)), some (.dct false true ks vs), x4, x5, some (.int (j : Int)), some (eSt st), y8, y9, y10, y11] := by
  have he : evi ⟨1, args, cf, wf, []⟩ (.enum (.var 7)) [some (eD t), some (.lst false F0), some (.int (i : Int)), some (.dct false true ks vs), x4, x5, some (.int (j : Int)), some (eSt st), x8, x9, x10, x11] =
      .ok (encI (fun k s => D.tup [.int (k : Int), eS s]) 0 st, []) [some (eD t), some (.lst false F0), some (.int (i : Int)), some (.dct false true ks vs), x4, x5, some (.int (j : Int)), some (eSt st), x8, x9, x10, x11] := by
    rw [← enc_enum]
    simp [callF, hasSub, frzO, isDct, evd, keyOk, keyOk1, finF, exSs, exS, ev, evs, evo, evc, evi, R.bind, R.then, evVar, gt, fin, val, two, many, Opd.get, dIx, L2.atI, L2.ixN, only, D.fzn, fzns, dCmp, gets, dBi, dBin, dAug, dNeg, asgS, asgT, asgTs, put, mayAsg, subK, augK, retV, fins, dTru, dLen, owns, opnds, mmR, dMm, Mm.md, callR0, callR, noExc, takes, puts, isTys, isTy, items, seqItems, grdOf, gOk, Ct.lock, clear, back, clearOk, D.fz, fzs, dSl, bound, D.isNon, lcR, dEq, D.plain, plains, D.dep, deps, deq, deqs, dIn, (by decide : 1 ≤ sizeLine), (by decide : 2 ≤ sizeLine), (by decide : 3 ≤ sizeLine), (by decide : 4 ≤ sizeLine), (by decide : 5 ≤ sizeLine), (by decide : 6 ≤ sizeLine), eSt, eS_fz]
  obtain ⟨ρ', h1, h2⟩ := for_ix (C := ⟨1, args, cf, wf, []⟩) (t := .tup [(.nm 8), (.tup [(.nm 9), (.nm 10), (.nm 11)])]) (b := b_i1) st (fun F k s => F ++ fo ((i, j, k), s, ownB (sts.take j) s))
    (fun k F ρ => F.length ≤ 3000 + k ∧ ∃ y8 y9 y10 y11, ρ = [some (eD t), some (.lst false F), some (.int (i : Int)), some (.dct false true ks vs), x4, x5, some (.int (j : Int)), some (eSt st), y8, y9, y10, y11]) F0 he rfl ⟨by omega, _, _, _, _, rfl⟩
    fun k s F ρ hs ⟨hl', y8, y9, y10, y11, e⟩ => by
      subst e
      have hkl : k < st.length := (List.getElem?_eq_some_iff.mp hs).1
      have l3 : F.length < sizeLine := Nat.lt_of_le_of_lt (by omega : _ ≤ 4000) (by decide)
      obtain ⟨kd, c⟩ := s
      have rh := in_rh kd
      have di : dIn (.tup [.str c.1, .str c.2]) (.dct false true ks vs) = some ((sts.take j).any (wr c)) := by
        rw [← hk c]
        simp [dIn, keyOk, keyOk1, ky]
      refine ⟨[some (eD t), some (.lst false F), some (.int (i : Int)), some (.dct false true ks vs), x4, x5, some (.int (j : Int)), some (eSt st), some (.int (k : Int)), some (.str kd), some (.str c.1), some (.str c.2)], [some (eD t), some (.lst false (F ++ fo ((i, j, k), (kd, c), ownB (sts.take j) (kd, c)))), some (.int (i : Int)), some (.dct false true ks vs), x4, x5, some (.int (j : Int)), some (eSt st), some (.int (k : Int)), some (.str kd), some (.str c.1), some (.str c.2)], by simp [callF, hasSub, frzO, isDct, evd, keyOk, keyOk1, finF, exSs, exS, ev, evs, evo, evc, evi, R.bind, R.then, evVar, gt, fin, val, two, many, Opd.get, dIx, L2.atI, L2.ixN, only, D.fzn, fzns, dCmp, gets, dBi, dBin, dAug, dNeg, asgS, asgT, asgTs, put, mayAsg, subK, augK, retV, fins, dTru, dLen, owns, opnds, mmR, dMm, Mm.md, callR0, callR, noExc, takes, puts, isTys, isTy, items, seqItems, grdOf, gOk, Ct.lock, clear, back, clearOk, D.fz, fzs, dSl, bound, D.isNon, lcR, dEq, D.plain, plains, D.dep, deps, deq, deqs, dIn, (by decide : 1 ≤ sizeLine), (by decide : 2 ≤ sizeLine), (by decide : 3 ≤ sizeLine), (by decide : 4 ≤ sizeLine), (by decide : 5 ≤ sizeLine), (by decide : 6 ≤ sizeLine), eS], .inl ?_, rfl, ?_, _, _, _, _, rfl⟩
      · generalize (sts.take j) = pv at *
        cases hz : isRH kd with
        | false =>
          rw [hz] at rh
          simp [callF, hasSub, frzO, isDct, evd, keyOk, keyOk1, finF, exSs, exS, ev, evs, evo, evc, evi, R.bind, R.then, evVar, gt, fin, val, two, many, Opd.get, only, D.fzn, fzns, dCmp, gets, dBi, dBin, dAug, dNeg, asgS, asgT, asgTs, put, mayAsg, subK, augK, retV, fins, dTru, dLen, owns, opnds, mmR, dMm, Mm.md, callR0, callR, noExc, takes, puts, isTys, isTy, items, seqItems, grdOf, gOk, Ct.lock, clear, back, clearOk, D.fz, fzs, dSl, bound, D.isNon, lcR, dEq, D.plain, plains, D.dep, deps, deq, deqs, (by decide : 1 ≤ sizeLine), (by decide : 2 ≤ sizeLine), (by decide : 3 ≤ sizeLine), (by decide : 4 ≤ sizeLine), (by decide : 5 ≤ sizeLine), (by decide : 6 ≤ sizeLine), b_i1, rh, fo, ownB, hz, l3, eE, ePl, eS]
        | true =>
          rw [hz] at rh
          cases hw : pv.any (wr c) with
          | false =>
            rw [hw] at di
            simp [callF, hasSub, frzO, isDct, evd, keyOk, keyOk1, finF, exSs, exS, ev, evs, evo, evc, evi, R.bind, R.then, evVar, gt, fin, val, two, many, Opd.get, only, D.fzn, fzns, dCmp, gets, dBi, dBin, dAug, dNeg, asgS, asgT, asgTs, put, mayAsg, subK, augK, retV, fins, dTru, dLen, owns, opnds, mmR, dMm, Mm.md, callR0, callR, noExc, takes, puts, isTys, isTy, items, seqItems, grdOf, gOk, Ct.lock, clear, back, clearOk, D.fz, fzs, dSl, bound, D.isNon, lcR, dEq, D.plain, plains, D.dep, deps, deq, deqs, (by decide : 1 ≤ sizeLine), (by decide : 2 ≤ sizeLine), (by decide : 3 ≤ sizeLine), (by decide : 4 ≤ sizeLine), (by decide : 5 ≤ sizeLine), (by decide : 6 ≤ sizeLine), b_i1, rh, di, fo, ownB, hz, hw, l3, eE, ePl, eS]
          | true =>
            rw [hw] at di
            simp [callF, hasSub, frzO, isDct, evd, keyOk, keyOk1, finF, exSs, exS, ev, evs, evo, evc, evi, R.bind, R.then, evVar, gt, fin, val, two, many, Opd.get, only, D.fzn, fzns, dCmp, gets, dBi, dBin, dAug, dNeg, asgS, asgT, asgTs, put, mayAsg, subK, augK, retV, fins, dTru, dLen, owns, opnds, mmR, dMm, Mm.md, callR0, callR, noExc, takes, puts, isTys, isTy, items, seqItems, grdOf, gOk, Ct.lock, clear, back, clearOk, D.fz, fzs, dSl, bound, D.isNon, lcR, dEq, D.plain, plains, D.dep, deps, deq, deqs, (by decide : 1 ≤ sizeLine), (by decide : 2 ≤ sizeLine), (by decide : 3 ≤ sizeLine), (by decide : 4 ≤ sizeLine), (by decide : 5 ≤ sizeLine), (by decide : 6 ≤ sizeLine), b_i1, rh, di, fo, ownB, hz, hw]
      · have : (fo ((i, j, k), (kd, c), ownB (sts.take j) (kd, c))).length ≤ 1 := by unfold fo; split <;> simp
        rw [List.length_append]
        omega
  obtain ⟨_, y8, y9, y10, y11, rfl⟩ := h2
  rw [foldI_app, flatI_enc fo (fun k s => ((i, j, k), s, ownB (sts.take j) s))] at h1
  exact ⟨y8, y9, y10, y11, h1⟩
theorem i2 {x0 x1 x2 : Option D} {ks vs : List D} {j : Nat} {sts : List (List St3)} {st : List St3} {x4 x5 x6 x8 x9 x10 x11 : Option D} (hj : sts[j]? = some st) (hl : st.length ≤ 30) (hn : ks.length ≤ 30 * j) (hn2 : j ≤ 10) (hk : ∀ c, dHas (ky c) ks = (sts.take j).any (wr c)) :
    ∃ ks' vs' y9 y10 y11, exS ⟨1, args, cf, wf, []⟩ s_i2 [x0, x1, x2, some (.dct false true ks vs), x4, x5, x6, some (eSt st), x8, x9, x10, x11] =
      .nx [x0, x1, x2, some (.dct false true ks' vs'), x4, x5, x6, some (eSt st), x8, y9, y10, y11] ∧ ks'.length ≤ 30 * (j + 1) ∧ ∀ c, dHas (ky c) ks' = (sts.take (j + 1)).any (wr c) := by
  have he : evi ⟨1, args, cf, wf, []⟩ (.e (.var 7)) [x0, x1, x2, some (.dct false true ks vs), x4, x5, x6, some (eSt st), x8, x9, x10, x11] =
      .ok (encI (fun _ s => eS s) 0 st, []) [x0, x1, x2, some (.dct false true ks vs), x4, x5, x6, some (eSt st), x8, x9, x10, x11] := by
    rw [← enc_map]
    simp [callF, hasSub, frzO, isDct, evd, keyOk, keyOk1, finF, exSs, exS, ev, evs, evo, evc, evi, R.bind, R.then, evVar, gt, fin, val, two, many, Opd.get, dIx, L2.atI, L2.ixN, only, D.fzn, fzns, dCmp, gets, dBi, dBin, dAug, dNeg, asgS, asgT, asgTs, put, mayAsg, subK, augK, retV, fins, dTru, dLen, owns, opnds, mmR, dMm, Mm.md, callR0, callR, noExc, takes, puts, isTys, isTy, items, seqItems, grdOf, gOk, Ct.lock, clear, back, clearOk, D.fz, fzs, dSl, bound, D.isNon, lcR, dEq, D.plain, plains, D.dep, deps, deq, deqs, dIn, (by decide : 1 ≤ sizeLine), (by decide : 2 ≤ sizeLine), (by decide : 3 ≤ sizeLine), (by decide : 4 ≤ sizeLine), (by decide : 5 ≤ sizeLine), (by decide : 6 ≤ sizeLine), eSt, eS_fz]
  obtain ⟨ρ', h1, h2⟩ := for_ix (C := ⟨1, args, cf, wf, []⟩) (t := .tup [(.nm 9), (.nm 10), (.nm 11)]) (b := b_i2) st (fun (_ : Unit) _ _ => ())
    (fun k _ ρ => ∃ ks' vs' y9 y10 y11, ρ = [x0, x1, x2, some (.dct false true ks' vs'), x4, x5, x6, some (eSt st), x8, y9, y10, y11] ∧ ks'.length ≤ ks.length + k ∧ ∀ c, dHas (ky c) ks' = ((sts.take j).any (wr c) || wr c (st.take k))) () he rfl
      ⟨ks, vs, _, _, _, rfl, by omega, fun c => by simp [hk, wr]⟩
    fun k s _ ρ hs ⟨ks', vs', y9, y10, y11, e, hl', hk'⟩ => by
      subst e
      have hkl : k < st.length := (List.getElem?_eq_some_iff.mp hs).1
      have tk : st.take (k + 1) = st.take k ++ [s] := by rw [List.take_succ, hs]; rfl
      have l3 : ks'.length < sizeLine := Nat.lt_of_le_of_lt (by omega : _ ≤ 4000) (by decide)
      obtain ⟨kd, c⟩ := s
      cases hz : (kd == Str.ofString "write") with
      | false =>
        refine ⟨[x0, x1, x2, some (.dct false true ks' vs'), x4, x5, x6, some (eSt st), x8, some (.str kd), some (.str c.1), some (.str c.2)], [x0, x1, x2, some (.dct false true ks' vs'), x4, x5, x6, some (eSt st), x8, some (.str kd), some (.str c.1), some (.str c.2)], by simp [callF, hasSub, frzO, isDct, evd, keyOk, keyOk1, finF, exSs, exS, ev, evs, evo, evc, evi, R.bind, R.then, evVar, gt, fin, val, two, many, Opd.get, dIx, L2.atI, L2.ixN, only, D.fzn, fzns, dCmp, gets, dBi, dBin, dAug, dNeg, asgS, asgT, asgTs, put, mayAsg, subK, augK, retV, fins, dTru, dLen, owns, opnds, mmR, dMm, Mm.md, callR0, callR, noExc, takes, puts, isTys, isTy, items, seqItems, grdOf, gOk, Ct.lock, clear, back, clearOk, D.fz, fzs, dSl, bound, D.isNon, lcR, dEq, D.plain, plains, D.dep, deps, deq, deqs, dIn, (by decide : 1 ≤ sizeLine), (by decide : 2 ≤ sizeLine), (by decide : 3 ≤ sizeLine), (by decide : 4 ≤ sizeLine), (by decide : 5 ≤ sizeLine), (by decide : 6 ≤ sizeLine), eS], .inl ?_, rfl, ks', vs', _, _, _, rfl, by omega, fun b => ?_⟩
        · simp [callF, hasSub, frzO, isDct, evd, keyOk, keyOk1, finF, exSs, exS, ev, evs, evo, evc, evi, R.bind, R.then, evVar, gt, fin, val, two, many, Opd.get, only, D.fzn, fzns, dCmp, gets, dBi, dBin, dAug, dNeg, asgS, asgT, asgTs, put, mayAsg, subK, augK, retV, fins, dTru, dLen, owns, opnds, mmR, dMm, Mm.md, callR0, callR, noExc, takes, puts, isTys, isTy, items, seqItems, grdOf, gOk, Ct.lock, clear, back, clearOk, D.fz, fzs, dSl, bound, D.isNon, lcR, dEq, D.plain, plains, D.dep, deps, deq, deqs, (by decide : 1 ≤ sizeLine), (by decide : 2 ≤ sizeLine), (by decide : 3 ≤ sizeLine), (by decide : 4 ≤ sizeLine), (by decide : 5 ≤ sizeLine), (by decide : 6 ≤ sizeLine), b_i2, hz]
        · rw [hk', tk]
          have : ¬ kd = Str.ofString "write" := by simpa using hz
          simp [wr, this]
      | true =>
        have hz' : kd = Str.ofString "write" := by simpa using hz
        refine ⟨[x0, x1, x2, some (.dct false true ks' vs'), x4, x5, x6, some (eSt st), x8, some (.str kd), some (.str c.1), some (.str c.2)], [x0, x1, x2, some (.dct false true (dPutK (ky c) ks') (dPutV (ky c) (.bl true) ks' vs')), x4, x5, x6, some (eSt st), x8, some (.str kd), some (.str c.1), some (.str c.2)], by simp [callF, hasSub, frzO, isDct, evd, keyOk, keyOk1, finF, exSs, exS, ev, evs, evo, evc, evi, R.bind, R.then, evVar, gt, fin, val, two, many, Opd.get, dIx, L2.atI, L2.ixN, only, D.fzn, fzns, dCmp, gets, dBi, dBin, dAug, dNeg, asgS, asgT, asgTs, put, mayAsg, subK, augK, retV, fins, dTru, dLen, owns, opnds, mmR, dMm, Mm.md, callR0, callR, noExc, takes, puts, isTys, isTy, items, seqItems, grdOf, gOk, Ct.lock, clear, back, clearOk, D.fz, fzs, dSl, bound, D.isNon, lcR, dEq, D.plain, plains, D.dep, deps, deq, deqs, dIn, (by decide : 1 ≤ sizeLine), (by decide : 2 ≤ sizeLine), (by decide : 3 ≤ sizeLine), (by decide : 4 ≤ sizeLine), (by decide : 5 ≤ sizeLine), (by decide : 6 ≤ sizeLine), eS], .inl ?_, rfl, _, _, _, _, _, rfl, ?_, fun b => ?_⟩
        · simp [callF, hasSub, frzO, isDct, evd, keyOk, keyOk1, finF, exSs, exS, ev, evs, evo, evc, evi, R.bind, R.then, evVar, gt, fin, val, two, many, Opd.get, only, D.fzn, fzns, dCmp, gets, dBi, dBin, dAug, dNeg, asgS, asgT, asgTs, put, mayAsg, subK, augK, retV, fins, dTru, dLen, owns, opnds, mmR, dMm, Mm.md, callR0, callR, noExc, takes, puts, isTys, isTy, items, seqItems, grdOf, gOk, Ct.lock, clear, back, clearOk, D.fz, fzs, dSl, bound, D.isNon, lcR, dEq, D.plain, plains, D.dep, deps, deq, deqs, (by decide : 1 ≤ sizeLine), (by decide : 2 ≤ sizeLine), (by decide : 3 ≤ sizeLine), (by decide : 4 ≤ sizeLine), (by decide : 5 ≤ sizeLine), (by decide : 6 ≤ sizeLine), b_i2, hz', l3, ky]
        · unfold dPutK
          split
          · omega
          · rw [List.length_append]; simp only [List.length_cons, List.length_nil]; omega
        · rw [has_put, hk', tk, hz']
          obtain ⟨c1, c2⟩ := c
          obtain ⟨b1, b2⟩ := b
          simp [wr, Bool.or_assoc]
  obtain ⟨ks', vs', y9, y10, y11, rfl, q1, q2⟩ := h2
  refine ⟨ks', vs', y9, y10, y11, h1, by omega, fun c => ?_⟩
  rw [q2, List.take_length]
  have tk : sts.take (j + 1) = sts.take j ++ [st] := by rw [List.take_succ, hj]; rfl
  rw [tk]
  simp
theorem i3 {t : List Pc} {F0 : List D} {i : Nat} {p : Pc} {x4 x6 x7 x8 x9 x10 x11 : Option D} (hg : GoodSts p.2) (hF : F0.length ≤ 300 * i) (hi : i < 10) :
    ∃ y3 y6 y7 y8 y9 y10 y11, exS ⟨1, args, cf, wf, []⟩ s_i3 [some (eD t), some (.lst false F0), some (.int (i : Int)), some (.dct false true [] []), x4, some (.tup (p.2.map eSt)), x6, x7, x8, x9, x10, x11] =
      .nx [some (eD t), some (.lst false (F0 ++ (opA i p).flatMap fo)), some (.int (i : Int)), y3, x4, some (.tup (p.2.map eSt)), y6, y7, y8, y9, y10, y11] := by
  have he : evi ⟨1, args, cf, wf, []⟩ (.enum (.var 5)) [some (eD t), some (.lst false F0), some (.int (i : Int)), some (.dct false true [] []), x4, some (.tup (p.2.map eSt)), x6, x7, x8, x9, x10, x11] =
      .ok (encI (fun j st => D.tup [.int (j : Int), eSt st]) 0 p.2, []) [some (eD t), some (.lst false F0), some (.int (i : Int)), some (.dct false true [] []), x4, some (.tup (p.2.map eSt)), x6, x7, x8, x9, x10, x11] := by
    rw [← enc_enum]
    simp [callF, hasSub, frzO, isDct, evd, keyOk, keyOk1, finF, exSs, exS, ev, evs, evo, evc, evi, R.bind, R.then, evVar, gt, fin, val, two, many, Opd.get, dIx, L2.atI, L2.ixN, only, D.fzn, fzns, dCmp, gets, dBi, dBin, dAug, dNeg, asgS, asgT, asgTs, put, mayAsg, subK, augK, retV, fins, dTru, dLen, owns, opnds, mmR, dMm, Mm.md, callR0, callR, noExc, takes, puts, isTys, isTy, items, seqItems, grdOf, gOk, Ct.lock, clear, back, clearOk, D.fz, fzs, dSl, bound, D.isNon, lcR, dEq, D.plain, plains, D.dep, deps, deq, deqs, dIn, (by decide : 1 ≤ sizeLine), (by decide : 2 ≤ sizeLine), (by decide : 3 ≤ sizeLine), (by decide : 4 ≤ sizeLine), (by decide : 5 ≤ sizeLine), (by decide : 6 ≤ sizeLine), eSt_fz]
  have lfo : ∀ es : List Ent, (es.flatMap fo).length ≤ es.length := fun es => by
    induction es with
    | nil => simp
    | cons e es ih =>
      have : (fo e).length ≤ 1 := by unfold fo; split <;> simp
      rw [List.flatMap_cons, List.length_append, List.length_cons]
      omega
  obtain ⟨ρ', h1, h2⟩ := for_ix (C := ⟨1, args, cf, wf, []⟩) (t := .tup [(.nm 6), (.nm 7)]) (b := .cons s_i1 (.cons s_i2 .nil)) p.2 (fun F j st => F ++ (opS i p.2 j st).flatMap fo)
    (fun j F ρ => F.length ≤ 300 * i + 30 * j ∧ ∃ ks vs y6 y7 y8 y9 y10 y11, ρ = [some (eD t), some (.lst false F), some (.int (i : Int)), some (.dct false true ks vs), x4, some (.tup (p.2.map eSt)), y6, y7, y8, y9, y10, y11] ∧ ks.length ≤ 30 * j ∧ ∀ c, dHas (ky c) ks = (p.2.take j).any (wr c)) F0 he rfl
      ⟨by omega, _, _, _, _, _, _, _, _, rfl, by simp, fun c => by simp [dHas]⟩
    fun j st F ρ hj ⟨hl, ks, vs, y6, y7, y8, y9, y10, y11, e, k1, k2⟩ => by
      subst e
      have hm := hg.st st (List.mem_of_getElem? hj)
      have hjl : j < p.2.length := (List.getElem?_eq_some_iff.mp hj).1
      have := hg.len
      obtain ⟨z8, z9, z10, z11, e1⟩ := i1 (args := args) (cf := cf) (wf := wf) (t := t) (F0 := F) (ks := ks) (vs := vs) (i := i) (j := j) (sts := p.2) (st := st) (x4 := x4) (x5 := some (.tup (p.2.map eSt))) (x8 := y8) (x9 := y9) (x10 := y10) (x11 := y11) hm.1 (by omega) k2
      obtain ⟨ks', vs', w9, w10, w11, e2, k3, k4⟩ := i2 (args := args) (cf := cf) (wf := wf) (x0 := some (eD t)) (x1 := some (.lst false (F ++ (opS i p.2 j st).flatMap fo))) (x2 := some (.int (i : Int))) (ks := ks) (vs := vs) (x4 := x4) (x5 := some (.tup (p.2.map eSt))) (x6 := some (.int (j : Int))) (x8 := z8) (x9 := z9) (x10 := z10) (x11 := z11) hj hm.1 k1 (by omega) k2
      have ls := lfo (opS i p.2 j st)
      have ls2 : (opS i p.2 j st).length = st.length := by rw [opS, encI_len]
      refine ⟨[some (eD t), some (.lst false F), some (.int (i : Int)), some (.dct false true ks vs), x4, some (.tup (p.2.map eSt)), some (.int (j : Int)), some (eSt st), y8, y9, y10, y11], [some (eD t), some (.lst false (F ++ (opS i p.2 j st).flatMap fo)), some (.int (i : Int)), some (.dct false true ks' vs'), x4, some (.tup (p.2.map eSt)), some (.int (j : Int)), some (eSt st), z8, w9, w10, w11], by simp [callF, hasSub, frzO, isDct, evd, keyOk, keyOk1, finF, exSs, exS, ev, evs, evo, evc, evi, R.bind, R.then, evVar, gt, fin, val, two, many, Opd.get, dIx, L2.atI, L2.ixN, only, D.fzn, fzns, dCmp, gets, dBi, dBin, dAug, dNeg, asgS, asgT, asgTs, put, mayAsg, subK, augK, retV, fins, dTru, dLen, owns, opnds, mmR, dMm, Mm.md, callR0, callR, noExc, takes, puts, isTys, isTy, items, seqItems, grdOf, gOk, Ct.lock, clear, back, clearOk, D.fz, fzs, dSl, bound, D.isNon, lcR, dEq, D.plain, plains, D.dep, deps, deq, deqs, dIn, (by decide : 1 ≤ sizeLine), (by decide : 2 ≤ sizeLine), (by decide : 3 ≤ sizeLine), (by decide : 4 ≤ sizeLine), (by decide : 5 ≤ sizeLine), (by decide : 6 ≤ sizeLine)], .inl ?_, rfl, by rw [List.length_append]; omega, ks', vs', _, _, _, _, _, _, rfl, k3, k4⟩
      simp only [exSs]
      rw [show Ct.lock ⟨1, args, cf, wf, []⟩ [] = ⟨1, args, cf, wf, []⟩ from rfl, e1]
      dsimp only
      rw [e2]
  obtain ⟨_, ks, vs, y6, y7, y8, y9, y10, y11, rfl, _⟩ := h2
  rw [foldI_app, flatI_flat fo (opS i p.2)] at h1
  exact ⟨_, y6, y7, y8, y9, y10, y11, h1⟩
theorem i4 {t : List Pc} (hg : Good t) :
    ∃ y2 y3 y4 y5 y6 y7 y8 y9 y10 y11, exS ⟨1, args, cf, wf, []⟩ s_i4 [some (eD t), some (.lst false []), none, none, none, none, none, none, none, none, none, none] =
      .nx [some (eD t), some (.lst false ((opP t).flatMap fo)), y2, y3, y4, y5, y6, y7, y8, y9, y10, y11] := by
  have he : evi ⟨1, args, cf, wf, []⟩ (.enum (.var 0)) [some (eD t), some (.lst false []), none, none, none, none, none, none, none, none, none, none] =
      .ok (encI (fun i p => D.tup [.int (i : Int), eP p]) 0 t, []) [some (eD t), some (.lst false []), none, none, none, none, none, none, none, none, none, none] := by
    rw [← enc_enum]
    simp [callF, hasSub, frzO, isDct, evd, keyOk, keyOk1, finF, exSs, exS, ev, evs, evo, evc, evi, R.bind, R.then, evVar, gt, fin, val, two, many, Opd.get, dIx, L2.atI, L2.ixN, only, D.fzn, fzns, dCmp, gets, dBi, dBin, dAug, dNeg, asgS, asgT, asgTs, put, mayAsg, subK, augK, retV, fins, dTru, dLen, owns, opnds, mmR, dMm, Mm.md, callR0, callR, noExc, takes, puts, isTys, isTy, items, seqItems, grdOf, gOk, Ct.lock, clear, back, clearOk, D.fz, fzs, dSl, bound, D.isNon, lcR, dEq, D.plain, plains, D.dep, deps, deq, deqs, dIn, (by decide : 1 ≤ sizeLine), (by decide : 2 ≤ sizeLine), (by decide : 3 ≤ sizeLine), (by decide : 4 ≤ sizeLine), (by decide : 5 ≤ sizeLine), (by decide : 6 ≤ sizeLine), eD, eP_fz]
  have lfo : ∀ es : List Ent, (es.flatMap fo).length ≤ es.length := fun es => by
    induction es with
    | nil => simp
    | cons e es ih =>
      have : (fo e).length ≤ 1 := by unfold fo; split <;> simp
      rw [List.flatMap_cons, List.length_append, List.length_cons]
      omega
  obtain ⟨ρ', h1, h2⟩ := for_ix (C := ⟨1, args, cf, wf, []⟩) (t := .tup [(.nm 2), (.tup [(.nm 4), (.nm 5)])]) (b := .cons (.asg (.nm 3) (.dnew true)) (.cons s_i3 .nil)) t (fun F i p => F ++ (opA i p).flatMap fo)
    (fun i F ρ => F.length ≤ 300 * i ∧ ∃ y2 y3 y4 y5 y6 y7 y8 y9 y10 y11, ρ = [some (eD t), some (.lst false F), y2, y3, y4, y5, y6, y7, y8, y9, y10, y11]) [] he rfl ⟨by simp, _, _, _, _, _, _, _, _, _, _, rfl⟩
    fun i p F ρ hi ⟨hl, y2, y3, y4, y5, y6, y7, y8, y9, y10, y11, e⟩ => by
      subst e
      have hp := hg.pc p (List.mem_of_getElem? hi)
      have hil : i < t.length := (List.getElem?_eq_some_iff.mp hi).1
      have := hg.len
      obtain ⟨z3, z6, z7, z8, z9, z10, z11, e1⟩ := i3 (args := args) (cf := cf) (wf := wf) (t := t) (F0 := F) (i := i) (p := p) (x4 := some (.str p.1)) (x6 := y6) (x7 := y7) (x8 := y8) (x9 := y9) (x10 := y10) (x11 := y11) hp hl (by omega)
      have la := opA_len hp i
      have ls := lfo (opA i p)
      refine ⟨[some (eD t), some (.lst false F), some (.int (i : Int)), y3, some (.str p.1), some (.tup (p.2.map eSt)), y6, y7, y8, y9, y10, y11], [some (eD t), some (.lst false (F ++ (opA i p).flatMap fo)), some (.int (i : Int)), z3, some (.str p.1), some (.tup (p.2.map eSt)), z6, z7, z8, z9, z10, z11], by simp [callF, hasSub, frzO, isDct, evd, keyOk, keyOk1, finF, exSs, exS, ev, evs, evo, evc, evi, R.bind, R.then, evVar, gt, fin, val, two, many, Opd.get, dIx, L2.atI, L2.ixN, only, D.fzn, fzns, dCmp, gets, dBi, dBin, dAug, dNeg, asgS, asgT, asgTs, put, mayAsg, subK, augK, retV, fins, dTru, dLen, owns, opnds, mmR, dMm, Mm.md, callR0, callR, noExc, takes, puts, isTys, isTy, items, seqItems, grdOf, gOk, Ct.lock, clear, back, clearOk, D.fz, fzs, dSl, bound, D.isNon, lcR, dEq, D.plain, plains, D.dep, deps, deq, deqs, dIn, (by decide : 1 ≤ sizeLine), (by decide : 2 ≤ sizeLine), (by decide : 3 ≤ sizeLine), (by decide : 4 ≤ sizeLine), (by decide : 5 ≤ sizeLine), (by decide : 6 ≤ sizeLine), eP, eSt_fz], .inl ?_, rfl, by rw [List.length_append]; omega, _, _, _, _, _, _, _, _, _, _, rfl⟩
      simp [callF, hasSub, frzO, isDct, evd, keyOk, keyOk1, finF, exSs, exS, ev, evs, evo, evc, evi, R.bind, R.then, evVar, gt, fin, val, two, many, Opd.get, dIx, L2.atI, L2.ixN, only, D.fzn, fzns, dCmp, gets, dBi, dBin, dAug, dNeg, asgS, asgT, asgTs, put, mayAsg, subK, augK, retV, fins, dTru, dLen, owns, opnds, mmR, dMm, Mm.md, callR0, callR, noExc, takes, puts, isTys, isTy, items, seqItems, grdOf, gOk, Ct.lock, clear, back, clearOk, D.fz, fzs, dSl, bound, D.isNon, lcR, dEq, D.plain, plains, D.dep, deps, deq, deqs, dIn, (by decide : 1 ≤ sizeLine), (by decide : 2 ≤ sizeLine), (by decide : 3 ≤ sizeLine), (by decide : 4 ≤ sizeLine), (by decide : 5 ≤ sizeLine), (by decide : 6 ≤ sizeLine), e1]
  obtain ⟨_, y2, y3, y4, y5, y6, y7, y8, y9, y10, y11, rfl⟩ := h2
  rw [foldI_app, flatI_flat fo opA] at h1
  exact ⟨y2, y3, y4, y5, y6, y7, y8, y9, y10, y11, h1⟩
end
theorem flat_fo (es : List Ent) : es.flatMap fo = (es.filter fun e => !e.2.2).map eE := by
  induction es with
  | nil => rfl
  | cons e es ih =>
    rw [List.flatMap_cons, ih, List.filter_cons]
    unfold fo
    cases e.2.2 <;> simp
theorem open_v {wf k : Nat} {t : List Pc} (hg : Good t) : callF T wf (k + 1) 7 [eD t] = .ok (.lst false (((opP t).filter fun e => !e.2.2).map eE)) [eD t] := by
  obtain ⟨y2, y3, y4, y5, y6, y7, y8, y9, y10, y11, e⟩ := i4 (args := [eD t]) (cf := callF T wf k) (wf := wf) hg
  have hT : T[7]? = some ⟨1, 12, b_open_steps⟩ := rfl
  rw [flat_fo] at e
  simp [callF, hasSub, frzO, isDct, evd, keyOk, keyOk1, finF, exSs, exS, ev, evs, evo, evc, evi, R.bind, R.then, evVar, gt, fin, val, two, many, Opd.get, only, D.fzn, fzns, dCmp, gets, dBi, dBin, dAug, dNeg, asgS, asgT, asgTs, put, mayAsg, subK, augK, retV, fins, dTru, dLen, owns, opnds, mmR, dMm, Mm.md, callR0, callR, noExc, takes, puts, isTys, isTy, items, seqItems, grdOf, gOk, Ct.lock, clear, back, clearOk, D.fz, fzs, dSl, bound, D.isNon, lcR, dEq, D.plain, plains, D.dep, deps, deq, deqs, dIn, (by decide : 1 ≤ sizeLine), (by decide : 2 ≤ sizeLine), (by decide : 3 ≤ sizeLine), (by decide : 4 ≤ sizeLine), (by decide : 5 ≤ sizeLine), (by decide : 6 ≤ sizeLine), hT, b_open_eq, e, eD_fz1, eE_fz, (by decide : 0 ≤ sizeLine)]
end Aw.L05

set_option Elab.async false
set_option linter.all false
set_option maxRecDepth 100000
set_option maxHeartbeats 4000000
/-! K05G: kinds; meetings, clashes. -/
namespace Aw.L05
open PySem K05
def blOf : FR → Bool
  | .ok (.bl b) _ => b
  | _ => false
def kc (a b : Str) : Bool := blOf (callF T 0 1 1 [.str a, .str b])
def km (a b : Str) : Bool := blOf (callF T 0 2 2 [.str a, .str b])
theorem kc_v {wf k : Nat} {a b : Str} (ha : Knd a) (hb : Knd b) : callF T wf (k + 1) 1 [.str a, .str b] = .ok (.bl (kc a b)) [.str a, .str b] := by
  rcases ha with rfl | rfl | rfl | rfl <;> rcases hb with rfl | rfl | rfl | rfl <;> kernel_rfl
theorem km_v {wf k : Nat} {a b : Str} (ha : Knd a) (hb : Knd b) : callF T wf (k + 2) 2 [.str a, .str b] = .ok (.bl (km a b)) [.str a, .str b] := by
  rcases ha with rfl | rfl | rfl | rfl <;> rcases hb with rfl | rfl | rfl | rfl <;> kernel_rfl
theorem ms2 {α : Type} (le : α → α → Bool) (a b : α) : [a, b].mergeSort le = if le a b then [a, b] else [b, a] := by
  simp [List.mergeSort, List.merge, List.MergeSort.Internal.splitInTwo]
def cond2 (a b : D) : Bool := fzns [a, b] && plains [a, b] && decide (deps [a, b] ≤ 60) && decide ([a, b].length ≤ sizeLine) && ([a, b].all fun x => [a, b].all fun y => PySem.W.alike (toPy x) (toPy y)) && ([a, b].all D.isTup || [a, b].all D.flat)
def le2 (a b : D) : Bool := !PySem.W.dataLt (toPy b) (toPy a)
theorem sort2 {a b : D} (h : cond2 a b = true) : dSort [a, b] = some (.lst false (if le2 a b then [a, b] else [b, a])) := by
  unfold cond2 at h
  unfold dSort
  rw [if_pos h, ms2]
  rfl
def rwL : D := .lst false [.lst false [.str (Str.ofString "read"), .str (Str.ofString "write")], .lst false [.str (Str.ofString "add"), .str (Str.ofString "read")]]
def clL : D := .lst false [.lst false [.str (Str.ofString "hold"), .str (Str.ofString "write")], .lst false [.str (Str.ofString "add"), .str (Str.ofString "write")], .lst false [.str (Str.ofString "write"), .str (Str.ofString "write")], .lst false [.str (Str.ofString "add"), .str (Str.ofString "hold")]]
theorem srt_v {a b : Str} (ha : Knd a) (hb : Knd b) : ∃ xs : List D, dSort [.str a, .str b] = some (.lst false xs) ∧ fzns xs = true ∧ dIn (.lst false xs) rwL = some (km a b && !kc a b) ∧ dIn (.lst false xs) clL = some (kc a b) := by
  refine ⟨if le2 (.str a) (.str b) then [.str a, .str b] else [.str b, .str a], sort2 ?_, ?_, ?_, ?_⟩
  · rcases ha with rfl | rfl | rfl | rfl <;> rcases hb with rfl | rfl | rfl | rfl <;> kernel_rfl
  · split <;> rfl
  · rcases ha with rfl | rfl | rfl | rfl <;> rcases hb with rfl | rfl | rfl | rfl <;> kernel_rfl
  · rcases ha with rfl | rfl | rfl | rfl <;> rcases hb with rfl | rfl | rfl | rfl <;> kernel_rfl
end Aw.L05

set_option Elab.async false
set_option linter.all false
set_option maxRecDepth 100000
set_option maxHeartbeats 4000000
/-! K05H: meetings, clashes. -/
namespace Aw.L05
open PySem K05
def sm (s u : St3) : Bool := s.2.1 == u.2.1 && s.2.2 == u.2.2
theorem cut1 {α : Type} (a : α) (r : List α) : cut (a :: r) (some 1) none = r := cut_drop (a :: r) 0
theorem meet_v {wf k : Nat} {s u : St3} (hs : Knd s.1) (hu : Knd u.1) : callF T wf (k + 3) 8 [eS s, eS u] = .ok (.bl (sm s u && km s.1 u.1)) [eS s, eS u] := by
  have hT : T[8]? = some ⟨2, 2, b_steps_meet⟩ := rfl
  have e := km_v (wf := wf) (k := k) hs hu
  obtain ⟨a, b, c⟩ := s
  obtain ⟨x, y, z⟩ := u
  simp only at hs hu e
  rw [callF, hT]
  generalize callF T wf (k + 2) = cf at *
  cases h1 : (b == y) <;> cases h2 : (c == z) <;> simp [callF, hasSub, frzO, isDct, evd, keyOk, keyOk1, finF, exSs, exS, ev, evs, evo, evc, evi, R.bind, R.then, evVar, gt, fin, val, two, many, Opd.get, only, D.fzn, fzns, dCmp, gets, dBi, dBin, dAug, dNeg, asgS, asgT, asgTs, put, mayAsg, subK, augK, retV, fins, dTru, dLen, owns, opnds, mmR, dMm, Mm.md, callR0, callR, noExc, takes, puts, isTys, isTy, items, seqItems, grdOf, gOk, Ct.lock, clear, back, clearOk, D.fz, fzs, dSl, bound, D.isNon, lcR, dEq, D.plain, plains, D.dep, deps, deq, deqs, dIn, (by decide : 1 ≤ sizeLine), (by decide : 2 ≤ sizeLine), (by decide : 3 ≤ sizeLine), (by decide : 4 ≤ sizeLine), (by decide : 5 ≤ sizeLine), (by decide : 6 ≤ sizeLine), b_steps_meet, eS, sm, cut1, h1, h2, ix_0, e]
theorem clash_v {wf k : Nat} {s u : St3} (hs : Knd s.1) (hu : Knd u.1) : callF T wf (k + 3) 9 [eS s, eS u] = .ok (.bl (sm s u && kc s.1 u.1)) [eS s, eS u] := by
  have hT : T[9]? = some ⟨2, 2, b_steps_clash⟩ := rfl
  have e := kc_v (wf := wf) (k := k + 1) hs hu
  obtain ⟨a, b, c⟩ := s
  obtain ⟨x, y, z⟩ := u
  simp only at hs hu e
  rw [callF, hT]
  generalize callF T wf (k + 2) = cf at *
  cases h1 : (b == y) <;> cases h2 : (c == z) <;> simp [callF, hasSub, frzO, isDct, evd, keyOk, keyOk1, finF, exSs, exS, ev, evs, evo, evc, evi, R.bind, R.then, evVar, gt, fin, val, two, many, Opd.get, only, D.fzn, fzns, dCmp, gets, dBi, dBin, dAug, dNeg, asgS, asgT, asgTs, put, mayAsg, subK, augK, retV, fins, dTru, dLen, owns, opnds, mmR, dMm, Mm.md, callR0, callR, noExc, takes, puts, isTys, isTy, items, seqItems, grdOf, gOk, Ct.lock, clear, back, clearOk, D.fz, fzs, dSl, bound, D.isNon, lcR, dEq, D.plain, plains, D.dep, deps, deq, deqs, dIn, (by decide : 1 ≤ sizeLine), (by decide : 2 ≤ sizeLine), (by decide : 3 ≤ sizeLine), (by decide : 4 ≤ sizeLine), (by decide : 5 ≤ sizeLine), (by decide : 6 ≤ sizeLine), b_steps_clash, eS, sm, cut1, h1, h2, ix_0, e]
def e_mc (f : Nat) : E := .lc [6, 7] (.tup [(.nm 6), (.nm 7)]) (.e (.var 3)) (.yes (.call f (.cons (.var 5) (.cons (.var 7) .nil)))) (.tup (.cons (.var 4) (.cons (.var 6) .nil)))
def s_mc (g f : Nat) : S := .forr (.tup [(.nm 4), (.nm 5)]) (.e (.call g (.cons (.var 0) .nil))) (.cons (.ex (.mm .extend 2 (.cons (e_mc f) .nil))) .nil)
def b_mc (g f : Nat) : Ss := .cons (.asg (.nm 2) (.lst .nil)) (.cons (.asg (.nm 3) (.call g (.cons (.var 1) .nil))) (.cons (s_mc g f) (.cons (.ret (.bi .tuple (.cons (.var 2) .nil))) .nil)))
theorem b_mc1 : b_meetings_of = b_mc 7 8 := rfl
theorem b_mc2 : b_clashes_of = b_mc 6 9 := rfl
def ePr (a b : Ent) : D := .tup [ePl a.1, ePl b.1]
theorem ePr_fz (a : Ent) (bs : List Ent) : fzns (bs.map (ePr a)) = true := (fzns_iff _).mpr fun x m => by obtain ⟨s, _, rfl⟩ := List.mem_map.mp m; rfl
theorem flatI_const {α β : Type} (f : α → List β) : ∀ (i : Nat) (xs : List α), flatI (fun _ a => f a) i xs = xs.flatMap f
  | _, [] => rfl
  | i, a :: r => by simp only [flatI, List.flatMap_cons, flatI_const f (i + 1) r]
section
variable {cf : Nat → List D → FR} {wf f g : Nat}
theorem mc_lc {args : List D} {x0 x1 x2 : Option D} {a : Ent} {bs : List Ent} {Q : St3 → St3 → Bool} (hq : ∀ b ∈ bs, cf f [eS a.2.1, eS b.2.1] = .ok (.bl (Q a.2.1 b.2.1)) [eS a.2.1, eS b.2.1]) :
    ev ⟨2, args, cf, wf, []⟩ (e_mc f) .read [x0, x1, x2, some (.lst false (bs.map eE)), some (ePl a.1), some (eS a.2.1), none, none] = .ok (.own (.lst false ((bs.filter fun b => Q a.2.1 b.2.1).map (ePr a)))) [x0, x1, x2, some (.lst false (bs.map eE)), some (ePl a.1), some (eS a.2.1), none, none] := by
  have sme : (D.lst false (bs.map eE)).same (.lst false (bs.map eE)) = true := same_refl _
  have fz := eE_fz bs
  have he : evi ⟨2, args, cf, wf, []⟩ (.e (.var 3)) [x0, x1, x2, some (.lst false (bs.map eE)), some (ePl a.1), some (eS a.2.1), none, none] =
      .ok (encI (fun _ b => eE b) 0 bs, [(3, .lst false (bs.map eE))]) [x0, x1, x2, some (.lst false (bs.map eE)), some (ePl a.1), some (eS a.2.1), none, none] := by
    rw [← enc_map]
    simp [callF, hasSub, frzO, isDct, evd, keyOk, keyOk1, finF, exSs, exS, ev, evs, evo, evc, evi, R.bind, R.then, evVar, gt, fin, val, two, many, Opd.get, only, D.fzn, fzns, dCmp, gets, dBi, dBin, dAug, dNeg, asgS, asgT, asgTs, put, mayAsg, subK, augK, retV, fins, dTru, dLen, owns, opnds, mmR, dMm, Mm.md, callR0, callR, noExc, takes, puts, isTys, isTy, items, seqItems, grdOf, gOk, Ct.lock, clear, back, clearOk, D.fz, fzs, dSl, bound, D.isNon, lcR, dEq, D.plain, plains, D.dep, deps, deq, deqs, dIn, (by decide : 1 ≤ sizeLine), (by decide : 2 ≤ sizeLine), (by decide : 3 ≤ sizeLine), (by decide : 4 ≤ sizeLine), (by decide : 5 ≤ sizeLine), (by decide : 6 ≤ sizeLine), fz]
  generalize hl : D.lst false (bs.map eE) = L at *
  have z := lc_ix (own := [6, 7]) (t := .tup [(.nm 6), (.nm 7)]) (c := .yes (.call f (.cons (.var 5) (.cons (.var 7) .nil)))) (e := .tup (.cons (.var 4) (.cons (.var 6) .nil))) (md := .read) (by intro h; cases h) bs (fun _ b => Q a.2.1 b.2.1) (fun _ b => ePr a b) he rfl (by simp [callF, hasSub, frzO, isDct, evd, keyOk, keyOk1, finF, exSs, exS, ev, evs, evo, evc, evi, R.bind, R.then, evVar, gt, fin, val, two, many, Opd.get, only, D.fzn, fzns, dCmp, gets, dBi, dBin, dAug, dNeg, asgS, asgT, asgTs, put, mayAsg, subK, augK, retV, fins, dTru, dLen, owns, opnds, mmR, dMm, Mm.md, callR0, callR, noExc, takes, puts, isTys, isTy, items, seqItems, grdOf, gOk, Ct.lock, clear, back, clearOk, D.fz, fzs, dSl, bound, D.isNon, lcR, dEq, D.plain, plains, D.dep, deps, deq, deqs, dIn, (by decide : 1 ≤ sizeLine), (by decide : 2 ≤ sizeLine), (by decide : 3 ≤ sizeLine), (by decide : 4 ≤ sizeLine), (by decide : 5 ≤ sizeLine), (by decide : 6 ≤ sizeLine), sme]) fun k b hb => by
    have q := hq b (List.mem_of_getElem? hb)
    have f1 : (eS a.2.1).fzn = true := rfl
    have f2 : (eS b.2.1).fzn = true := rfl
    have f3 : (ePl a.1).fzn = true := rfl
    have f4 : (ePl b.1).fzn = true := rfl
    refine ⟨[x0, x1, x2, some L, some (ePl a.1), some (eS a.2.1), some (ePl b.1), some (eS b.2.1)], by simp [callF, hasSub, frzO, isDct, evd, keyOk, keyOk1, finF, exSs, exS, ev, evs, evo, evc, evi, R.bind, R.then, evVar, gt, fin, val, two, many, Opd.get, only, D.fzn, fzns, dCmp, gets, dBi, dBin, dAug, dNeg, asgS, asgT, asgTs, put, mayAsg, subK, augK, retV, fins, dTru, dLen, owns, opnds, mmR, dMm, Mm.md, callR0, callR, noExc, takes, puts, isTys, isTy, items, seqItems, grdOf, gOk, Ct.lock, clear, back, clearOk, D.fz, fzs, dSl, bound, D.isNon, lcR, dEq, D.plain, plains, D.dep, deps, deq, deqs, dIn, (by decide : 1 ≤ sizeLine), (by decide : 2 ≤ sizeLine), (by decide : 3 ≤ sizeLine), (by decide : 4 ≤ sizeLine), (by decide : 5 ≤ sizeLine), (by decide : 6 ≤ sizeLine), eE, f2, f4], ?_, fun _ => ?_, by simp [callF, hasSub, frzO, isDct, evd, keyOk, keyOk1, finF, exSs, exS, ev, evs, evo, evc, evi, R.bind, R.then, evVar, gt, fin, val, two, many, Opd.get, only, D.fzn, fzns, dCmp, gets, dBi, dBin, dAug, dNeg, asgS, asgT, asgTs, put, mayAsg, subK, augK, retV, fins, dTru, dLen, owns, opnds, mmR, dMm, Mm.md, callR0, callR, noExc, takes, puts, isTys, isTy, items, seqItems, grdOf, gOk, Ct.lock, clear, back, clearOk, D.fz, fzs, dSl, bound, D.isNon, lcR, dEq, D.plain, plains, D.dep, deps, deq, deqs, dIn, (by decide : 1 ≤ sizeLine), (by decide : 2 ≤ sizeLine), (by decide : 3 ≤ sizeLine), (by decide : 4 ≤ sizeLine), (by decide : 5 ≤ sizeLine), (by decide : 6 ≤ sizeLine), sme], rfl⟩
    · simp [callF, hasSub, frzO, isDct, evd, keyOk, keyOk1, finF, exSs, exS, ev, evs, evo, evc, evi, R.bind, R.then, evVar, gt, fin, val, two, many, Opd.get, only, D.fzn, fzns, dCmp, gets, dBi, dBin, dAug, dNeg, asgS, asgT, asgTs, put, mayAsg, subK, augK, retV, fins, dTru, dLen, owns, opnds, mmR, dMm, Mm.md, callR0, callR, noExc, takes, puts, isTys, isTy, items, seqItems, grdOf, gOk, Ct.lock, clear, back, clearOk, D.fz, fzs, dSl, bound, D.isNon, lcR, dEq, D.plain, plains, D.dep, deps, deq, deqs, dIn, (by decide : 1 ≤ sizeLine), (by decide : 2 ≤ sizeLine), (by decide : 3 ≤ sizeLine), (by decide : 4 ≤ sizeLine), (by decide : 5 ≤ sizeLine), (by decide : 6 ≤ sizeLine), f1, f2, q]
    · simp [callF, hasSub, frzO, isDct, evd, keyOk, keyOk1, finF, exSs, exS, ev, evs, evo, evc, evi, R.bind, R.then, evVar, gt, fin, val, two, many, Opd.get, only, D.fzn, fzns, dCmp, gets, dBi, dBin, dAug, dNeg, asgS, asgT, asgTs, put, mayAsg, subK, augK, retV, fins, dTru, dLen, owns, opnds, mmR, dMm, Mm.md, callR0, callR, noExc, takes, puts, isTys, isTy, items, seqItems, grdOf, gOk, Ct.lock, clear, back, clearOk, D.fz, fzs, dSl, bound, D.isNon, lcR, dEq, D.plain, plains, D.dep, deps, deq, deqs, dIn, (by decide : 1 ≤ sizeLine), (by decide : 2 ≤ sizeLine), (by decide : 3 ≤ sizeLine), (by decide : 4 ≤ sizeLine), (by decide : 5 ≤ sizeLine), (by decide : 6 ≤ sizeLine), f3, f4, ePr]
  rw [mapI_flat] at z
  exact z
theorem mc_v {T : List Fd} {j k : Nat} {t u : List Pc} {as bs : List Ent} {Q : St3 → St3 → Bool} (hT : T[j]? = some ⟨2, 8, b_mc g f⟩) (ha : callF T wf k g [eD t] = .ok (.lst false (as.map eE)) [eD t]) (hb : callF T wf k g [eD u] = .ok (.lst false (bs.map eE)) [eD u])
    (la : as.length ≤ 3000) (lb : bs.length ≤ 3000) (hq : ∀ a ∈ as, ∀ b ∈ bs, callF T wf k f [eS a.2.1, eS b.2.1] = .ok (.bl (Q a.2.1 b.2.1)) [eS a.2.1, eS b.2.1]) :
    callF T wf (k + 1) j [eD t, eD u] = .ok (.tup (as.flatMap fun a => (bs.filter fun b => Q a.2.1 b.2.1).map (ePr a))) [eD t, eD u] := by
  rw [callF, hT]
  generalize callF T wf k = cf at *
  have f1 := eD_fz1 t
  have f2 := eD_fz1 u
  have he : evi ⟨2, [eD t, eD u], cf, wf, []⟩ (.e (.call g (.cons (.var 0) .nil))) [some (eD t), some (eD u), some (.lst false []), some (.lst false (bs.map eE)), none, none, none, none] =
      .ok (encI (fun _ a => eE a) 0 as, []) [some (eD t), some (eD u), some (.lst false []), some (.lst false (bs.map eE)), none, none, none, none] := by
    rw [← enc_map]
    simp [callF, hasSub, frzO, isDct, evd, keyOk, keyOk1, finF, exSs, exS, ev, evs, evo, evc, evi, R.bind, R.then, evVar, gt, fin, val, two, many, Opd.get, only, D.fzn, fzns, dCmp, gets, dBi, dBin, dAug, dNeg, asgS, asgT, asgTs, put, mayAsg, subK, augK, retV, fins, dTru, dLen, owns, opnds, mmR, dMm, Mm.md, callR0, callR, noExc, takes, puts, isTys, isTy, items, seqItems, grdOf, gOk, Ct.lock, clear, back, clearOk, D.fz, fzs, dSl, bound, D.isNon, lcR, dEq, D.plain, plains, D.dep, deps, deq, deqs, dIn, (by decide : 1 ≤ sizeLine), (by decide : 2 ≤ sizeLine), (by decide : 3 ≤ sizeLine), (by decide : 4 ≤ sizeLine), (by decide : 5 ≤ sizeLine), (by decide : 6 ≤ sizeLine), f1, ha, eE_fz]
  obtain ⟨ρ', h1, h2⟩ := for_ix (C := ⟨2, [eD t, eD u], cf, wf, []⟩) (t := .tup [(.nm 4), (.nm 5)]) (b := .cons (.ex (.mm .extend 2 (.cons (e_mc f) .nil))) .nil) as (fun F _ a => F ++ (bs.filter fun b => Q a.2.1 b.2.1).map (ePr a))
    (fun i F ρ => F.length ≤ 3000 * i ∧ ∃ y4 y5, ρ = [some (eD t), some (eD u), some (.lst false F), some (.lst false (bs.map eE)), y4, y5, none, none]) [] he rfl ⟨by simp, _, _, rfl⟩
    fun i a F ρ hi ⟨hl, y4, y5, e⟩ => by
      subst e
      have hil : i < as.length := (List.getElem?_eq_some_iff.mp hi).1
      have hm := List.mem_of_getElem? hi
      have lf := List.length_filter_le (fun b => Q a.2.1 b.2.1) bs
      have l3 : F.length + ((bs.filter fun b => Q a.2.1 b.2.1).map (ePr a)).length ≤ sizeLine := enough' (by rw [List.length_map]; omega)
      have e1 := mc_lc (args := [eD t, eD u]) (cf := cf) (wf := wf) (f := f) (x0 := some (eD t)) (x1 := some (eD u)) (x2 := some (.lst false F)) (a := a) (bs := bs) (Q := Q) (hq a hm)
      have fz := ePr_fz a (bs.filter fun b => Q a.2.1 b.2.1)
      have f3 : (eS a.2.1).fzn = true := rfl
      have f4 : (ePl a.1).fzn = true := rfl
      refine ⟨[some (eD t), some (eD u), some (.lst false F), some (.lst false (bs.map eE)), some (ePl a.1), some (eS a.2.1), none, none], [some (eD t), some (eD u), some (.lst false (F ++ (bs.filter fun b => Q a.2.1 b.2.1).map (ePr a))), some (.lst false (bs.map eE)), some (ePl a.1), some (eS a.2.1), none, none], by simp [callF, hasSub, frzO, isDct, evd, keyOk, keyOk1, finF, exSs, exS, ev, evs, evo, evc, evi, R.bind, R.then, evVar, gt, fin, val, two, many, Opd.get, only, D.fzn, fzns, dCmp, gets, dBi, dBin, dAug, dNeg, asgS, asgT, asgTs, put, mayAsg, subK, augK, retV, fins, dTru, dLen, owns, opnds, mmR, dMm, Mm.md, callR0, callR, noExc, takes, puts, isTys, isTy, items, seqItems, grdOf, gOk, Ct.lock, clear, back, clearOk, D.fz, fzs, dSl, bound, D.isNon, lcR, dEq, D.plain, plains, D.dep, deps, deq, deqs, dIn, (by decide : 1 ≤ sizeLine), (by decide : 2 ≤ sizeLine), (by decide : 3 ≤ sizeLine), (by decide : 4 ≤ sizeLine), (by decide : 5 ≤ sizeLine), (by decide : 6 ≤ sizeLine), eE, f3, f4], .inl ?_, rfl, by rw [List.length_append, List.length_map]; omega, _, _, rfl⟩
      generalize (bs.filter fun b => Q a.2.1 b.2.1).map (ePr a) = G at *
      have e1' : ev (Ct.lock ⟨2, [eD t, eD u], cf, wf, []⟩ []) (e_mc f) .read [some (eD t), some (eD u), some (.lst false F), some (.lst false (bs.map eE)), some (ePl a.1), some (eS a.2.1), none, none] = _ := e1
      have fb := eE_fz bs
      generalize bs.map eE = B at *
      generalize Ct.lock ⟨2, [eD t, eD u], cf, wf, []⟩ [] = C at *
      have pe : ev C (e_mc f) .read [some (eD t), some (eD u), some (.lst false F), some (.lst false B), some (ePl a.1), some (eS a.2.1), none, none] = .ok (.own (.lst false G)) [some (eD t), some (eD u), some (.lst false F), some (.lst false B), some (ePl a.1), some (eS a.2.1), none, none] := e1'
      simp [callF, hasSub, frzO, isDct, evd, keyOk, keyOk1, finF, exSs, exS, ev, evs, evo, evc, evi, R.bind, R.then, evVar, gt, fin, val, two, many, Opd.get, only, D.fzn, fzns, dCmp, gets, dBi, dBin, dAug, dNeg, asgS, asgT, asgTs, put, mayAsg, subK, augK, retV, fins, dTru, dLen, owns, opnds, mmR, dMm, Mm.md, callR0, callR, noExc, takes, puts, isTys, isTy, items, seqItems, grdOf, gOk, Ct.lock, clear, back, clearOk, D.fz, fzs, dSl, bound, D.isNon, lcR, dEq, D.plain, plains, D.dep, deps, deq, deqs, dIn, (by decide : 1 ≤ sizeLine), (by decide : 2 ≤ sizeLine), (by decide : 3 ≤ sizeLine), (by decide : 4 ≤ sizeLine), (by decide : 5 ≤ sizeLine), (by decide : 6 ≤ sizeLine), pe, fz, l3]
  obtain ⟨hl, y4, y5, rfl⟩ := h2
  rw [foldI_app, List.nil_append, flatI_const] at h1 hl
  have fz : fzns (as.flatMap fun a => (bs.filter fun b => Q a.2.1 b.2.1).map (ePr a)) = true := (fzns_iff _).mpr fun x m => by
    obtain ⟨a, _, m⟩ := List.mem_flatMap.mp m
    exact (fzns_iff _).mp (ePr_fz a _) x m
  have h1' : exS ⟨2, [eD t, eD u], cf, wf, []⟩ (s_mc g f) [some (eD t), some (eD u), some (.lst false []), some (.lst false (bs.map eE)), none, none, none, none] = _ := h1
  generalize (as.flatMap fun a => (bs.filter fun b => Q a.2.1 b.2.1).map (ePr a)) = G at *
  simp [callF, hasSub, frzO, isDct, evd, keyOk, keyOk1, finF, exSs, exS, ev, evs, evo, evc, evi, R.bind, R.then, evVar, gt, fin, val, two, many, Opd.get, only, D.fzn, fzns, dCmp, gets, dBi, dBin, dAug, dNeg, asgS, asgT, asgTs, put, mayAsg, subK, augK, retV, fins, dTru, dLen, owns, opnds, mmR, dMm, Mm.md, callR0, callR, noExc, takes, puts, isTys, isTy, items, seqItems, grdOf, gOk, Ct.lock, clear, back, clearOk, D.fz, fzs, dSl, bound, D.isNon, lcR, dEq, D.plain, plains, D.dep, deps, deq, deqs, dIn, (by decide : 1 ≤ sizeLine), (by decide : 2 ≤ sizeLine), (by decide : 3 ≤ sizeLine), (by decide : 4 ≤ sizeLine), (by decide : 5 ≤ sizeLine), (by decide : 6 ≤ sizeLine), b_mc, f1, f2, hb, h1', fz, (by decide : 0 ≤ sizeLine)]
end
end Aw.L05

set_option Elab.async false
set_option linter.all false
set_option maxRecDepth 100000
set_option maxHeartbeats 4000000
/-! K05I: the law's own steps and pairs. -/
namespace Aw.L05
open PySem K05
def eF (e : Ent) : D := .tup [ePl e.1, eS e.2.1, .bl e.2.2]
theorem eF_fz (es : List Ent) : fzns (es.map eF) = true := (fzns_iff _).mpr fun x m => by obtain ⟨s, _, rfl⟩ := List.mem_map.mp m; rfl
def isW (s : St3) : Bool := s.1 == Str.ofString "write"
def ww (st : List St3) : List D := (st.filter isW).map fun s => ky s.2
theorem ky_pl (l : List (Str × Str)) : plains (l.map ky) = true := (plains_iff _).mpr fun x m => by obtain ⟨s, _, rfl⟩ := List.mem_map.mp m; rfl
theorem ww_pl (prev : List (List St3)) : plains (prev.flatMap ww) = true := (plains_iff _).mpr fun x m => by
  obtain ⟨st, _, m⟩ := List.mem_flatMap.mp m
  obtain ⟨s, _, rfl⟩ := List.mem_map.mp m
  rfl
theorem ww_fz (st : List St3) : fzns (ww st) = true := (fzns_iff _).mpr fun x m => by
  obtain ⟨s, _, rfl⟩ := List.mem_map.mp m
  rfl
theorem ky_deq (a b : Str × Str) : deq (ky a) (ky b) = decide (a = b) := by
  obtain ⟨a1, a2⟩ := a
  obtain ⟨b1, b2⟩ := b
  rw [Bool.eq_iff_iff]
  simp [ky, deq, deqs]
theorem ww_any (c : Str × Str) (st : List St3) : (ww st).any (fun y => deq y (ky c)) = wr c st := by
  induction st with
  | nil => rfl
  | cons s st ih =>
    unfold ww wr at *
    rw [List.filter_cons, List.any_cons, ← ih]
    obtain ⟨kd, d⟩ := s
    by_cases h : kd = Str.ofString "write"
    · subst h
      simp [isW, ky_deq, Prod.ext_iff]
    · simp [isW, h]
theorem in_ww (c : Str × Str) (prev : List (List St3)) : dIn (.tup [.str c.1, .str c.2]) (.lst false (prev.flatMap ww)) = some (prev.any (wr c)) := by
  have e : (prev.flatMap ww).any (fun y => deq y (.tup [.str c.1, .str c.2])) = prev.any (wr c) := by
    induction prev with
    | nil => rfl
    | cons st prev ih =>
      rw [List.flatMap_cons, List.any_append, List.any_cons, ih]
      congr 1
      exact ww_any c st
  simp [dIn, D.plain, plains, D.dep, deps, ww_pl, e]
def e_ww : E := .lc [8] (.nm 8) (.e (.var 5)) (.yes (.cmp .eq (.ix (.var 8) (.cst (.int 0))) (.cst (.str "write")))) (.sl (.var 8) (.yes (.cst (.int 1))) .no)
def b_j1 : Ss := .cons (.asg (.nm 7) (.bop true (.cmp .isIn (.ix (.ix (.var 5) (.var 6)) (.cst (.int 0))) (.tup (.cons (.cst (.str "read")) (.cons (.cst (.str "hold")) .nil)))) (.cmp .isIn (.sl (.ix (.var 5) (.var 6)) (.yes (.cst (.int 1))) .no) (.var 3)))) (.cons (.ex (.mm .append 1 (.cons (.tup (.cons (.tup (.cons (.var 2) (.cons (.var 4) (.cons (.var 6) .nil)))) (.cons (.ix (.var 5) (.var 6)) (.cons (.var 7) .nil)))) .nil))) .nil)
def s_j1 : S := .forr (.nm 6) (.rng (.cons (.bi .len (.cons (.var 5) .nil)) .nil)) b_j1
def b_j2 : Ss := .cons (.asg (.nm 5) (.ix (.ix (.ix (.var 0) (.var 2)) (.cst (.int 1))) (.var 4))) (.cons s_j1 (.cons (.ex (.mm .extend 3 (.cons e_ww .nil))) .nil))
def s_j2 : S := .forr (.nm 4) (.rng (.cons (.bi .len (.cons (.ix (.ix (.var 0) (.var 2)) (.cst (.int 1))) .nil)) .nil)) b_j2
def b_j3 : Ss := .cons (.asg (.nm 3) (.lst .nil)) (.cons s_j2 .nil)
def s_j3 : S := .forr (.nm 2) (.rng (.cons (.bi .len (.cons (.var 0) .nil)) .nil)) b_j3
theorem b_steps_eq : b_law_steps = .cons (.asg (.nm 1) (.lst .nil)) (.cons s_j3 (.cons (.ret (.var 1)) .nil)) := rfl
section
variable {args : List D} {cf : Nat → List D → FR} {wf : Nat}
theorem ww_lc {x0 x1 x2 x3 x4 x6 x7 : Option D} {st : List St3} :
    ev ⟨1, args, cf, wf, []⟩ e_ww .read [x0, x1, x2, x3, x4, some (eSt st), x6, x7, none] = .ok (.own (.lst false (ww st))) [x0, x1, x2, x3, x4, some (eSt st), x6, x7, none] := by
  have he : evi ⟨1, args, cf, wf, []⟩ (.e (.var 5)) [x0, x1, x2, x3, x4, some (eSt st), x6, x7, none] = .ok (encI (fun _ s => eS s) 0 st, []) [x0, x1, x2, x3, x4, some (eSt st), x6, x7, none] := by
    rw [← enc_map]
    simp [callF, hasSub, frzO, isDct, evd, keyOk, keyOk1, finF, exSs, exS, ev, evs, evo, evc, evi, R.bind, R.then, evVar, gt, fin, val, two, many, Opd.get, only, D.fzn, fzns, dCmp, gets, dBi, dBin, dAug, dNeg, asgS, asgT, asgTs, put, mayAsg, subK, augK, retV, fins, dTru, dLen, owns, opnds, mmR, dMm, Mm.md, callR0, callR, noExc, takes, puts, isTys, isTy, items, seqItems, grdOf, gOk, Ct.lock, clear, back, clearOk, D.fz, fzs, dSl, bound, D.isNon, lcR, dEq, D.plain, plains, D.dep, deps, deq, deqs, dIn, (by decide : 1 ≤ sizeLine), (by decide : 2 ≤ sizeLine), (by decide : 3 ≤ sizeLine), (by decide : 4 ≤ sizeLine), (by decide : 5 ≤ sizeLine), (by decide : 6 ≤ sizeLine), eSt, eS_fz]
  have z := lc_ix (own := [8]) (t := .nm 8) (c := .yes (.cmp .eq (.ix (.var 8) (.cst (.int 0))) (.cst (.str "write")))) (e := .sl (.var 8) (.yes (.cst (.int 1))) .no) (md := .read) (by intro h; cases h) st (fun _ s => isW s) (fun _ s => ky s.2) he rfl rfl fun k s hs => by
    refine ⟨[x0, x1, x2, x3, x4, some (eSt st), x6, x7, some (eS s)], by simp [callF, hasSub, frzO, isDct, evd, keyOk, keyOk1, finF, exSs, exS, ev, evs, evo, evc, evi, R.bind, R.then, evVar, gt, fin, val, two, many, Opd.get, only, D.fzn, fzns, dCmp, gets, dBi, dBin, dAug, dNeg, asgS, asgT, asgTs, put, mayAsg, subK, augK, retV, fins, dTru, dLen, owns, opnds, mmR, dMm, Mm.md, callR0, callR, noExc, takes, puts, isTys, isTy, items, seqItems, grdOf, gOk, Ct.lock, clear, back, clearOk, D.fz, fzs, dSl, bound, D.isNon, lcR, dEq, D.plain, plains, D.dep, deps, deq, deqs, dIn, (by decide : 1 ≤ sizeLine), (by decide : 2 ≤ sizeLine), (by decide : 3 ≤ sizeLine), (by decide : 4 ≤ sizeLine), (by decide : 5 ≤ sizeLine), (by decide : 6 ≤ sizeLine), eS], ?_, fun _ => ?_, rfl, rfl⟩
    · simp [callF, hasSub, frzO, isDct, evd, keyOk, keyOk1, finF, exSs, exS, ev, evs, evo, evc, evi, R.bind, R.then, evVar, gt, fin, val, two, many, Opd.get, only, D.fzn, fzns, dCmp, gets, dBi, dBin, dAug, dNeg, asgS, asgT, asgTs, put, mayAsg, subK, augK, retV, fins, dTru, dLen, owns, opnds, mmR, dMm, Mm.md, callR0, callR, noExc, takes, puts, isTys, isTy, items, seqItems, grdOf, gOk, Ct.lock, clear, back, clearOk, D.fz, fzs, dSl, bound, D.isNon, lcR, dEq, D.plain, plains, D.dep, deps, deq, deqs, dIn, (by decide : 1 ≤ sizeLine), (by decide : 2 ≤ sizeLine), (by decide : 3 ≤ sizeLine), (by decide : 4 ≤ sizeLine), (by decide : 5 ≤ sizeLine), (by decide : 6 ≤ sizeLine), eS, ix_0, isW]
    · simp [callF, hasSub, frzO, isDct, evd, keyOk, keyOk1, finF, exSs, exS, ev, evs, evo, evc, evi, R.bind, R.then, evVar, gt, fin, val, two, many, Opd.get, only, D.fzn, fzns, dCmp, gets, dBi, dBin, dAug, dNeg, asgS, asgT, asgTs, put, mayAsg, subK, augK, retV, fins, dTru, dLen, owns, opnds, mmR, dMm, Mm.md, callR0, callR, noExc, takes, puts, isTys, isTy, items, seqItems, grdOf, gOk, Ct.lock, clear, back, clearOk, D.fz, fzs, dSl, bound, D.isNon, lcR, dEq, D.plain, plains, D.dep, deps, deq, deqs, dIn, (by decide : 1 ≤ sizeLine), (by decide : 2 ≤ sizeLine), (by decide : 3 ≤ sizeLine), (by decide : 4 ≤ sizeLine), (by decide : 5 ≤ sizeLine), (by decide : 6 ≤ sizeLine), eS, cut1, ky]
  rw [mapI_flat] at z
  exact z
theorem j1 {x0 : Option D} {F0 : List D} {i j : Nat} {sts : List (List St3)} {st : List St3} {x6 x7 : Option D} (hl : st.length ≤ 30) (hF : F0.length ≤ 3000) :
    ∃ y6 y7, exS ⟨1, args, cf, wf, []⟩ s_j1 [x0, some (.lst false F0), some (.int (i : Int)), some (.lst false ((sts.take j).flatMap ww)), some (.int (j : Int)), some (eSt st), x6, x7, none] =
      .nx [x0, some (.lst false (F0 ++ (opS i sts j st).map eF)), some (.int (i : Int)), some (.lst false ((sts.take j).flatMap ww)), some (.int (j : Int)), some (eSt st), y6, y7, none] := by
  generalize hW : D.lst false ((sts.take j).flatMap ww) = W
  have he : evi ⟨1, args, cf, wf, []⟩ (.rng (.cons (.bi .len (.cons (.var 5) .nil)) .nil)) [x0, some (.lst false F0), some (.int (i : Int)), some W, some (.int (j : Int)), some (eSt st), x6, x7, none] =
      .ok (encI (fun k (_ : St3) => D.int (k : Int)) 0 st, []) [x0, some (.lst false F0), some (.int (i : Int)), some W, some (.int (j : Int)), some (eSt st), x6, x7, none] := by
    rw [← enc_rng]
    simp [callF, hasSub, frzO, isDct, evd, keyOk, keyOk1, finF, exSs, exS, ev, evs, evo, evc, evi, R.bind, R.then, evVar, gt, fin, val, two, many, Opd.get, dIx, L2.atI, L2.ixN, only, D.fzn, fzns, dCmp, gets, dBi, dBin, dAug, dNeg, asgS, asgT, asgTs, put, mayAsg, subK, augK, retV, fins, dTru, dLen, owns, opnds, mmR, dMm, Mm.md, callR0, callR, noExc, takes, puts, isTys, isTy, items, seqItems, grdOf, gOk, Ct.lock, clear, back, clearOk, D.fz, fzs, dSl, bound, D.isNon, lcR, dEq, D.plain, plains, D.dep, deps, deq, deqs, dIn, (by decide : 1 ≤ sizeLine), (by decide : 2 ≤ sizeLine), (by decide : 3 ≤ sizeLine), (by decide : 4 ≤ sizeLine), (by decide : 5 ≤ sizeLine), (by decide : 6 ≤ sizeLine), eSt, rng1 (n := st.length) (by omega)]
  obtain ⟨ρ', h1, h2⟩ := for_ix (C := ⟨1, args, cf, wf, []⟩) (t := .nm 6) (b := b_j1) st (fun F k s => F ++ [eF ((i, j, k), s, ownB (sts.take j) s)])
    (fun k F ρ => F.length ≤ 3000 + k ∧ ∃ y6 y7, ρ = [x0, some (.lst false F), some (.int (i : Int)), some W, some (.int (j : Int)), some (eSt st), y6, y7, none]) F0 he rfl ⟨by omega, _, _, rfl⟩
    fun k s F ρ hs ⟨hl', y6, y7, e⟩ => by
      subst e
      have hkl : k < st.length := (List.getElem?_eq_some_iff.mp hs).1
      have l3 : F.length < sizeLine := Nat.lt_of_le_of_lt (by omega : _ ≤ 4000) (by decide)
      have a3 : dIx (eSt st) (.int (k : Int)) = some (eS s) := ix_tup (by rw [List.getElem?_map, hs]; rfl)
      have fz := eSt_fz1 st
      obtain ⟨kd, c⟩ := s
      have rh := in_rh kd
      have di := in_ww c (sts.take j)
      rw [hW] at di
      refine ⟨[x0, some (.lst false F), some (.int (i : Int)), some W, some (.int (j : Int)), some (eSt st), some (.int (k : Int)), y7, none], [x0, some (.lst false (F ++ [eF ((i, j, k), (kd, c), ownB (sts.take j) (kd, c))])), some (.int (i : Int)), some W, some (.int (j : Int)), some (eSt st), some (.int (k : Int)), some (.bl (ownB (sts.take j) (kd, c))), none], by simp [callF, hasSub, frzO, isDct, evd, keyOk, keyOk1, finF, exSs, exS, ev, evs, evo, evc, evi, R.bind, R.then, evVar, gt, fin, val, two, many, Opd.get, dIx, L2.atI, L2.ixN, only, D.fzn, fzns, dCmp, gets, dBi, dBin, dAug, dNeg, asgS, asgT, asgTs, put, mayAsg, subK, augK, retV, fins, dTru, dLen, owns, opnds, mmR, dMm, Mm.md, callR0, callR, noExc, takes, puts, isTys, isTy, items, seqItems, grdOf, gOk, Ct.lock, clear, back, clearOk, D.fz, fzs, dSl, bound, D.isNon, lcR, dEq, D.plain, plains, D.dep, deps, deq, deqs, dIn, (by decide : 1 ≤ sizeLine), (by decide : 2 ≤ sizeLine), (by decide : 3 ≤ sizeLine), (by decide : 4 ≤ sizeLine), (by decide : 5 ≤ sizeLine), (by decide : 6 ≤ sizeLine)], .inl ?_, rfl, by rw [List.length_append]; simp only [List.length_cons, List.length_nil]; omega, _, _, rfl⟩
      generalize (sts.take j) = pv at *
      cases hz : isRH kd with
      | false =>
        rw [hz] at rh
        simp [callF, hasSub, frzO, isDct, evd, keyOk, keyOk1, finF, exSs, exS, ev, evs, evo, evc, evi, R.bind, R.then, evVar, gt, fin, val, two, many, Opd.get, only, D.fzn, fzns, dCmp, gets, dBi, dBin, dAug, dNeg, asgS, asgT, asgTs, put, mayAsg, subK, augK, retV, fins, dTru, dLen, owns, opnds, mmR, dMm, Mm.md, callR0, callR, noExc, takes, puts, isTys, isTy, items, seqItems, grdOf, gOk, Ct.lock, clear, back, clearOk, D.fz, fzs, dSl, bound, D.isNon, lcR, dEq, D.plain, plains, D.dep, deps, deq, deqs, (by decide : 1 ≤ sizeLine), (by decide : 2 ≤ sizeLine), (by decide : 3 ≤ sizeLine), (by decide : 4 ≤ sizeLine), (by decide : 5 ≤ sizeLine), (by decide : 6 ≤ sizeLine), b_j1, a3, fz, rh, ownB, hz, l3, eF, ePl, eS, ix_0]
      | true =>
        rw [hz] at rh
        simp [callF, hasSub, frzO, isDct, evd, keyOk, keyOk1, finF, exSs, exS, ev, evs, evo, evc, evi, R.bind, R.then, evVar, gt, fin, val, two, many, Opd.get, only, D.fzn, fzns, dCmp, gets, dBi, dBin, dAug, dNeg, asgS, asgT, asgTs, put, mayAsg, subK, augK, retV, fins, dTru, dLen, owns, opnds, mmR, dMm, Mm.md, callR0, callR, noExc, takes, puts, isTys, isTy, items, seqItems, grdOf, gOk, Ct.lock, clear, back, clearOk, D.fz, fzs, dSl, bound, D.isNon, lcR, dEq, D.plain, plains, D.dep, deps, deq, deqs, (by decide : 1 ≤ sizeLine), (by decide : 2 ≤ sizeLine), (by decide : 3 ≤ sizeLine), (by decide : 4 ≤ sizeLine), (by decide : 5 ≤ sizeLine), (by decide : 6 ≤ sizeLine), b_j1, a3, fz, rh, di, ownB, hz, l3, eF, ePl, eS, ix_0, cut1]
  obtain ⟨_, y6, y7, rfl⟩ := h2
  rw [foldI_app, flatI_enc (fun e => [eF e]) (fun k s => ((i, j, k), s, ownB (sts.take j) s))] at h1
  have e1 : ∀ es : List Ent, es.flatMap (fun e => [eF e]) = es.map eF := fun es => by induction es with
    | nil => rfl
    | cons e es ih => rw [List.flatMap_cons, ih]; rfl
  rw [e1] at h1
  exact ⟨y6, y7, h1⟩
theorem j2 {t : List Pc} {F0 : List D} {i : Nat} {p : Pc} {x4 x5 x6 x7 : Option D} (hi : t[i]? = some p) (hg : GoodSts p.2) (hF : F0.length ≤ 300 * i) (hi10 : i < 10) :
    ∃ y3 y4 y5 y6 y7, exS ⟨1, args, cf, wf, []⟩ s_j2 [some (eD t), some (.lst false F0), some (.int (i : Int)), some (.lst false []), x4, x5, x6, x7, none] =
      .nx [some (eD t), some (.lst false (F0 ++ (opA i p).map eF)), some (.int (i : Int)), y3, y4, y5, y6, y7, none] := by
  have a1 : dIx (eD t) (.int (i : Int)) = some (eP p) := ix_tup (by rw [List.getElem?_map, hi]; rfl)
  have a4 : dIx (eP p) (.int 1) = some (.tup (p.2.map eSt)) := ix_1
  have lg := hg.len
  have he : evi ⟨1, args, cf, wf, []⟩ (.rng (.cons (.bi .len (.cons (.ix (.ix (.var 0) (.var 2)) (.cst (.int 1))) .nil)) .nil)) [some (eD t), some (.lst false F0), some (.int (i : Int)), some (.lst false []), x4, x5, x6, x7, none] =
      .ok (encI (fun j (_ : List St3) => D.int (j : Int)) 0 p.2, []) [some (eD t), some (.lst false F0), some (.int (i : Int)), some (.lst false []), x4, x5, x6, x7, none] := by
    rw [← enc_rng]
    simp [callF, hasSub, frzO, isDct, evd, keyOk, keyOk1, finF, exSs, exS, ev, evs, evo, evc, evi, R.bind, R.then, evVar, gt, fin, val, two, many, Opd.get, only, D.fzn, fzns, dCmp, gets, dBi, dBin, dAug, dNeg, asgS, asgT, asgTs, put, mayAsg, subK, augK, retV, fins, dTru, dLen, owns, opnds, mmR, dMm, Mm.md, callR0, callR, noExc, takes, puts, isTys, isTy, items, seqItems, grdOf, gOk, Ct.lock, clear, back, clearOk, D.fz, fzs, dSl, bound, D.isNon, lcR, dEq, D.plain, plains, D.dep, deps, deq, deqs, dIn, (by decide : 1 ≤ sizeLine), (by decide : 2 ≤ sizeLine), (by decide : 3 ≤ sizeLine), (by decide : 4 ≤ sizeLine), (by decide : 5 ≤ sizeLine), (by decide : 6 ≤ sizeLine), a1, a4, eP_fz1, eSt_fz, rng1 (n := p.2.length) (by omega)]
  obtain ⟨ρ', h1, h2⟩ := for_ix (C := ⟨1, args, cf, wf, []⟩) (t := .nm 4) (b := b_j2) p.2 (fun F j st => F ++ (opS i p.2 j st).map eF)
    (fun j F ρ => F.length ≤ 300 * i + 30 * j ∧ ∃ y4 y5 y6 y7, ρ = [some (eD t), some (.lst false F), some (.int (i : Int)), some (.lst false ((p.2.take j).flatMap ww)), y4, y5, y6, y7, none] ∧ ((p.2.take j).flatMap ww).length ≤ 30 * j) F0 he rfl
      ⟨by omega, _, _, _, _, rfl, by simp⟩
    fun j st F ρ hj ⟨hl, y4, y5, y6, y7, e, hw⟩ => by
      subst e
      have hm := hg.st st (List.mem_of_getElem? hj)
      have hjl : j < p.2.length := (List.getElem?_eq_some_iff.mp hj).1
      have a2 : dIx (.tup (p.2.map eSt)) (.int (j : Int)) = some (eSt st) := ix_tup (by rw [List.getElem?_map, hj]; rfl)
      obtain ⟨z6, z7, e1⟩ := j1 (args := args) (cf := cf) (wf := wf) (x0 := some (eD t)) (F0 := F) (i := i) (j := j) (sts := p.2) (st := st) (x6 := y6) (x7 := y7) hm.1 (by omega)
      have tk : p.2.take (j + 1) = p.2.take j ++ [st] := by rw [List.take_succ, hj]; rfl
      have e2 : (p.2.take (j + 1)).flatMap ww = (p.2.take j).flatMap ww ++ ww st := by rw [tk, List.flatMap_append]; simp
      have lw : (ww st).length ≤ 30 := by
        unfold ww
        rw [List.length_map]
        exact Nat.le_trans (List.length_filter_le _ _) hm.1
      have el := ww_lc (args := args) (cf := cf) (wf := wf) (x0 := some (eD t)) (x1 := some (.lst false (F ++ (opS i p.2 j st).map eF))) (x2 := some (.int (i : Int))) (x3 := some (.lst false ((p.2.take j).flatMap ww))) (x4 := some (.int (j : Int))) (x6 := z6) (x7 := z7) (st := st)
      have ls2 : (opS i p.2 j st).length = st.length := by rw [opS, encI_len]
      have l3 : ((p.2.take j).flatMap ww).length + (ww st).length ≤ sizeLine := enough' (by omega)
      refine ⟨[some (eD t), some (.lst false F), some (.int (i : Int)), some (.lst false ((p.2.take j).flatMap ww)), some (.int (j : Int)), y5, y6, y7, none], [some (eD t), some (.lst false (F ++ (opS i p.2 j st).map eF)), some (.int (i : Int)), some (.lst false ((p.2.take (j + 1)).flatMap ww)), some (.int (j : Int)), some (eSt st), z6, z7, none], by simp [callF, hasSub, frzO, isDct, evd, keyOk, keyOk1, finF, exSs, exS, ev, evs, evo, evc, evi, R.bind, R.then, evVar, gt, fin, val, two, many, Opd.get, dIx, L2.atI, L2.ixN, only, D.fzn, fzns, dCmp, gets, dBi, dBin, dAug, dNeg, asgS, asgT, asgTs, put, mayAsg, subK, augK, retV, fins, dTru, dLen, owns, opnds, mmR, dMm, Mm.md, callR0, callR, noExc, takes, puts, isTys, isTy, items, seqItems, grdOf, gOk, Ct.lock, clear, back, clearOk, D.fz, fzs, dSl, bound, D.isNon, lcR, dEq, D.plain, plains, D.dep, deps, deq, deqs, dIn, (by decide : 1 ≤ sizeLine), (by decide : 2 ≤ sizeLine), (by decide : 3 ≤ sizeLine), (by decide : 4 ≤ sizeLine), (by decide : 5 ≤ sizeLine), (by decide : 6 ≤ sizeLine)], .inl ?_, rfl, by rw [List.length_append, List.length_map]; omega, _, _, _, _, rfl, by rw [e2, List.length_append]; omega⟩
      rw [e2]
      have fw := ww_fz st
      generalize (p.2.take j).flatMap ww = W at *
      generalize ww st = G at *
      generalize (opS i p.2 j st).map eF = O at *
      have fs := eSt_fz1 st
      have fs2 := eSt_fz p.2
      simp [callF, hasSub, frzO, isDct, evd, keyOk, keyOk1, finF, exSs, exS, ev, evs, evo, evc, evi, R.bind, R.then, evVar, gt, fin, val, two, many, Opd.get, only, D.fzn, fzns, dCmp, gets, dBi, dBin, dAug, dNeg, asgS, asgT, asgTs, put, mayAsg, subK, augK, retV, fins, dTru, dLen, owns, opnds, mmR, dMm, Mm.md, callR0, callR, noExc, takes, puts, isTys, isTy, items, seqItems, grdOf, gOk, Ct.lock, clear, back, clearOk, D.fz, fzs, dSl, bound, D.isNon, lcR, dEq, D.plain, plains, D.dep, deps, deq, deqs, dIn, (by decide : 1 ≤ sizeLine), (by decide : 2 ≤ sizeLine), (by decide : 3 ≤ sizeLine), (by decide : 4 ≤ sizeLine), (by decide : 5 ≤ sizeLine), (by decide : 6 ≤ sizeLine), b_j2, a1, a4, a2, eP_fz1, fs2, fs, e1, el, l3, fw]
  obtain ⟨_, y4, y5, y6, y7, rfl, _⟩ := h2
  rw [foldI_app, show (fun j st => (opS i p.2 j st).map eF) = fun j st => (opS i p.2 j st).map eF from rfl, ← flatI_map (opS i p.2) eF] at h1
  exact ⟨_, y4, y5, y6, y7, h1⟩
theorem j3 {t : List Pc} (hg : Good t) :
    ∃ y2 y3 y4 y5 y6 y7, exS ⟨1, args, cf, wf, []⟩ s_j3 [some (eD t), some (.lst false []), none, none, none, none, none, none, none] =
      .nx [some (eD t), some (.lst false ((opP t).map eF)), y2, y3, y4, y5, y6, y7, none] := by
  have lg := hg.len
  have he : evi ⟨1, args, cf, wf, []⟩ (.rng (.cons (.bi .len (.cons (.var 0) .nil)) .nil)) [some (eD t), some (.lst false []), none, none, none, none, none, none, none] =
      .ok (encI (fun i (_ : Pc) => D.int (i : Int)) 0 t, []) [some (eD t), some (.lst false []), none, none, none, none, none, none, none] := by
    rw [← enc_rng]
    simp [callF, hasSub, frzO, isDct, evd, keyOk, keyOk1, finF, exSs, exS, ev, evs, evo, evc, evi, R.bind, R.then, evVar, gt, fin, val, two, many, Opd.get, only, D.fzn, fzns, dCmp, gets, dBi, dBin, dAug, dNeg, asgS, asgT, asgTs, put, mayAsg, subK, augK, retV, fins, dTru, dLen, owns, opnds, mmR, dMm, Mm.md, callR0, callR, noExc, takes, puts, isTys, isTy, items, seqItems, grdOf, gOk, Ct.lock, clear, back, clearOk, D.fz, fzs, dSl, bound, D.isNon, lcR, dEq, D.plain, plains, D.dep, deps, deq, deqs, dIn, (by decide : 1 ≤ sizeLine), (by decide : 2 ≤ sizeLine), (by decide : 3 ≤ sizeLine), (by decide : 4 ≤ sizeLine), (by decide : 5 ≤ sizeLine), (by decide : 6 ≤ sizeLine), eD, rng1 (n := t.length) (by omega)]
  obtain ⟨ρ', h1, h2⟩ := for_ix (C := ⟨1, args, cf, wf, []⟩) (t := .nm 2) (b := b_j3) t (fun F i p => F ++ (opA i p).map eF)
    (fun i F ρ => F.length ≤ 300 * i ∧ ∃ y2 y3 y4 y5 y6 y7, ρ = [some (eD t), some (.lst false F), y2, y3, y4, y5, y6, y7, none]) [] he rfl
      ⟨by simp, _, _, _, _, _, _, rfl⟩
    fun i p F ρ hi ⟨hl, y2, y3, y4, y5, y6, y7, e⟩ => by
      subst e
      have hp := hg.pc p (List.mem_of_getElem? hi)
      have hil : i < t.length := (List.getElem?_eq_some_iff.mp hi).1
      obtain ⟨z3, z4, z5, z6, z7, e1⟩ := j2 (args := args) (cf := cf) (wf := wf) (t := t) (F0 := F) (i := i) (p := p) (x4 := y4) (x5 := y5) (x6 := y6) (x7 := y7) hi hp hl (by omega)
      have la := opA_len hp i
      refine ⟨[some (eD t), some (.lst false F), some (.int (i : Int)), y3, y4, y5, y6, y7, none], [some (eD t), some (.lst false (F ++ (opA i p).map eF)), some (.int (i : Int)), z3, z4, z5, z6, z7, none], by simp [callF, hasSub, frzO, isDct, evd, keyOk, keyOk1, finF, exSs, exS, ev, evs, evo, evc, evi, R.bind, R.then, evVar, gt, fin, val, two, many, Opd.get, dIx, L2.atI, L2.ixN, only, D.fzn, fzns, dCmp, gets, dBi, dBin, dAug, dNeg, asgS, asgT, asgTs, put, mayAsg, subK, augK, retV, fins, dTru, dLen, owns, opnds, mmR, dMm, Mm.md, callR0, callR, noExc, takes, puts, isTys, isTy, items, seqItems, grdOf, gOk, Ct.lock, clear, back, clearOk, D.fz, fzs, dSl, bound, D.isNon, lcR, dEq, D.plain, plains, D.dep, deps, deq, deqs, dIn, (by decide : 1 ≤ sizeLine), (by decide : 2 ≤ sizeLine), (by decide : 3 ≤ sizeLine), (by decide : 4 ≤ sizeLine), (by decide : 5 ≤ sizeLine), (by decide : 6 ≤ sizeLine)], .inl ?_, rfl, by rw [List.length_append, List.length_map]; omega, _, _, _, _, _, _, rfl⟩
      generalize (opA i p).map eF = O at *
      simp [callF, hasSub, frzO, isDct, evd, keyOk, keyOk1, finF, exSs, exS, ev, evs, evo, evc, evi, R.bind, R.then, evVar, gt, fin, val, two, many, Opd.get, only, D.fzn, fzns, dCmp, gets, dBi, dBin, dAug, dNeg, asgS, asgT, asgTs, put, mayAsg, subK, augK, retV, fins, dTru, dLen, owns, opnds, mmR, dMm, Mm.md, callR0, callR, noExc, takes, puts, isTys, isTy, items, seqItems, grdOf, gOk, Ct.lock, clear, back, clearOk, D.fz, fzs, dSl, bound, D.isNon, lcR, dEq, D.plain, plains, D.dep, deps, deq, deqs, dIn, (by decide : 1 ≤ sizeLine), (by decide : 2 ≤ sizeLine), (by decide : 3 ≤ sizeLine), (by decide : 4 ≤ sizeLine), (by decide : 5 ≤ sizeLine), (by decide : 6 ≤ sizeLine), b_j3, e1, (by decide : 0 ≤ sizeLine)]
  obtain ⟨_, y2, y3, y4, y5, y6, y7, rfl⟩ := h2
  rw [foldI_app, ← flatI_map opA eF] at h1
  exact ⟨y2, y3, y4, y5, y6, y7, h1⟩
end
theorem steps_v {wf k : Nat} {t : List Pc} (hg : Good t) : callF T wf (k + 1) 21 [eD t] = .ok (.lst false ((opP t).map eF)) [eD t] := by
  obtain ⟨y2, y3, y4, y5, y6, y7, e⟩ := j3 (args := [eD t]) (cf := callF T wf k) (wf := wf) hg
  have hT : T[21]? = some ⟨1, 9, b_law_steps⟩ := rfl
  have fz := eF_fz (opP t)
  have f1 := eD_fz1 t
  rw [callF, hT]
  generalize callF T wf k = cf at *
  generalize (opP t).map eF = G at *
  simp [callF, hasSub, frzO, isDct, evd, keyOk, keyOk1, finF, exSs, exS, ev, evs, evo, evc, evi, R.bind, R.then, evVar, gt, fin, val, two, many, Opd.get, only, D.fzn, fzns, dCmp, gets, dBi, dBin, dAug, dNeg, asgS, asgT, asgTs, put, mayAsg, subK, augK, retV, fins, dTru, dLen, owns, opnds, mmR, dMm, Mm.md, callR0, callR, noExc, takes, puts, isTys, isTy, items, seqItems, grdOf, gOk, Ct.lock, clear, back, clearOk, D.fz, fzs, dSl, bound, D.isNon, lcR, dEq, D.plain, plains, D.dep, deps, deq, deqs, dIn, (by decide : 1 ≤ sizeLine), (by decide : 2 ≤ sizeLine), (by decide : 3 ≤ sizeLine), (by decide : 4 ≤ sizeLine), (by decide : 5 ≤ sizeLine), (by decide : 6 ≤ sizeLine), b_steps_eq, e, f1, fz, (by decide : 0 ≤ sizeLine)]
end Aw.L05

set_option Elab.async false
set_option linter.all false
set_option maxRecDepth 100000
set_option maxHeartbeats 4000000
/-! K05J: the pairs are ascending. -/
namespace Aw.L05
open PySem PySem.W K05
theorem encI_pw {α β : Type} {R : β → β → Prop} {f : Nat → α → β} (h : ∀ k a l b, k < l → R (f k a) (f l b)) : ∀ (i : Nat) (xs : List α), (encI f i xs).Pairwise R
  | _, [] => .nil
  | i, a :: r => .cons (fun y m => by
      obtain ⟨k, b, _, rfl⟩ := encI_mem m
      exact h _ _ _ _ (by omega)) (encI_pw h (i + 1) r)
theorem flatI_pw {α β : Type} {R : β → β → Prop} {f : Nat → α → List β} (h0 : ∀ k a, (f k a).Pairwise R) (h : ∀ k a l b, k < l → ∀ x ∈ f k a, ∀ y ∈ f l b, R x y) : ∀ (i : Nat) (xs : List α), (flatI f i xs).Pairwise R
  | _, [] => .nil
  | i, a :: r => List.pairwise_append.mpr ⟨h0 i a, flatI_pw h0 h (i + 1) r, fun x mx y my => by
      obtain ⟨k, b, _, my⟩ := flatI_mem my
      exact h _ _ _ _ (by omega) x mx y my⟩
def plLt (a b : Pl) : Prop := a.1 < b.1 ∨ (a.1 = b.1 ∧ (a.2.1 < b.2.1 ∨ (a.2.1 = b.2.1 ∧ a.2.2 < b.2.2)))
theorem op_pw (t : List Pc) : (opP t).Pairwise fun a b => plLt a.1 b.1 := by
  have h1 : ∀ (i : Nat) (sts : List (List St3)) (j : Nat) (st : List St3), (opS i sts j st).Pairwise fun a b => plLt a.1 b.1 := fun i sts j st =>
    encI_pw (R := fun a b : Ent => plLt a.1 b.1) (f := fun k s => ((i, j, k), s, ownB (sts.take j) s)) (fun k s l u hk => Or.inr ⟨rfl, Or.inr ⟨rfl, hk⟩⟩) 0 st
  have h2 : ∀ (i : Nat) (p : Pc), (opA i p).Pairwise fun a b => plLt a.1 b.1 := fun i p =>
    flatI_pw (R := fun a b : Ent => plLt a.1 b.1) (f := opS i p.2) (fun j st => h1 i p.2 j st) (fun j st j' st' hj x mx y my => by
      obtain ⟨k, s, _, rfl⟩ := encI_mem mx
      obtain ⟨k', s', _, rfl⟩ := encI_mem my
      exact Or.inr ⟨rfl, Or.inl hj⟩) 0 p.2
  exact flatI_pw (R := fun a b : Ent => plLt a.1 b.1) (f := opA) h2 (fun i p i' p' hi x mx y my => by
    obtain ⟨j, st, _, mx⟩ := flatI_mem mx
    obtain ⟨k, s, _, rfl⟩ := encI_mem mx
    obtain ⟨j', st', _, my⟩ := flatI_mem my
    obtain ⟨k', s', _, rfl⟩ := encI_mem my
    exact Or.inl hi) 0 t
def tkP (a : Pl) : List (Int ⊕ List Nat) := [.inl 1, .inl (a.1 : Int), .inl 1, .inl (a.2.1 : Int), .inl 1, .inl (a.2.2 : Int), .inl 0]
theorem tk_ePl (a : Pl) : keyToks (toPy (ePl a)) = tkP a := by simp [ePl, toPy, toPys, keyToks, keyToksAll, tkP]
theorem tk_ePr (a b : Ent) : keyToks (toPy (ePr a b)) = .inl 1 :: (tkP a.1 ++ (.inl 1 :: (tkP b.1 ++ [.inl 0]))) := by
  simp only [ePr, toPy, toPys, keyToks, keyToksAll, ← tk_ePl]
theorem lt_no {a c : Pl} (h : plLt a c) (l m : List (Int ⊕ List Nat)) : PyProof.Rows.lexLt PyProof.Rows.itemOrd (tkP c ++ l) (tkP a ++ m) = false := by
  obtain ⟨a1, a2, a3⟩ := a
  obtain ⟨c1, c2, c3⟩ := c
  have ne : ∀ {x y : Nat}, x < y → (Sum.inl (y : Int) : Int ⊕ List Nat) ≠ .inl (x : Int) := fun h e => by
    have := Sum.inl.inj e
    omega
  have bl : ∀ {x y : Nat}, x < y → PyProof.Rows.itemOrd.blt (.inl (y : Int)) (.inl (x : Int)) = false := fun {x y} h => by
    show decide ((y : Int) < (x : Int)) = false
    simp
    omega
  rcases h with h | ⟨h1, h | ⟨h2, h⟩⟩
  · simp only [tkP, List.cons_append]
    rw [PyProof.Rows.lex_self (O := PyProof.Rows.itemOrd), PyProof.Rows.lex_diff (O := PyProof.Rows.itemOrd) (ne h)]
    exact bl h
  · simp only at h1 h
    subst h1
    simp only [tkP, List.cons_append]
    rw [PyProof.Rows.lex_self (O := PyProof.Rows.itemOrd), PyProof.Rows.lex_self (O := PyProof.Rows.itemOrd), PyProof.Rows.lex_self (O := PyProof.Rows.itemOrd), PyProof.Rows.lex_diff (O := PyProof.Rows.itemOrd) (ne h)]
    exact bl h
  · simp only at h1 h2 h
    subst h1 h2
    simp only [tkP, List.cons_append]
    rw [PyProof.Rows.lex_self (O := PyProof.Rows.itemOrd), PyProof.Rows.lex_self (O := PyProof.Rows.itemOrd), PyProof.Rows.lex_self (O := PyProof.Rows.itemOrd), PyProof.Rows.lex_self (O := PyProof.Rows.itemOrd), PyProof.Rows.lex_self (O := PyProof.Rows.itemOrd), PyProof.Rows.lex_diff (O := PyProof.Rows.itemOrd) (ne h)]
    exact bl h
def leD (a b : D) : Bool := !dataLt (toPy b) (toPy a)
theorem le_first {a c : Ent} (b d : Ent) (h : plLt a.1 c.1) : leD (ePr a b) (ePr c d) = true := by
  unfold leD dataLt
  rw [tk_ePr, tk_ePr, PyProof.Rows.lex_self (O := PyProof.Rows.itemOrd), lt_no h]
  rfl
theorem le_second {b d : Ent} (a : Ent) (h : plLt b.1 d.1) : leD (ePr a b) (ePr a d) = true := by
  unfold leD dataLt
  rw [tk_ePr, tk_ePr, PyProof.Rows.lex_self (O := PyProof.Rows.itemOrd), lex_pre, PyProof.Rows.lex_self (O := PyProof.Rows.itemOrd), lt_no h]
  rfl
def prs (as bs : List Ent) (Q : Ent → Ent → Bool) : List D := as.flatMap fun a => (bs.filter (Q a)).map (ePr a)
theorem prs_pw {as bs : List Ent} (ha : as.Pairwise fun a b => plLt a.1 b.1) (hb : bs.Pairwise fun a b => plLt a.1 b.1) (Q : Ent → Ent → Bool) : (prs as bs Q).Pairwise fun x y => leD x y = true := by
  unfold prs
  rw [List.pairwise_flatMap]
  refine ⟨fun a _ => ?_, ha.imp fun {a c} h x mx y my => ?_⟩
  · rw [List.pairwise_map]
    exact (hb.filter _).imp fun h => le_second a h
  · obtain ⟨b, _, rfl⟩ := List.mem_map.mp mx
    obtain ⟨d, _, rfl⟩ := List.mem_map.mp my
    exact le_first b d h
theorem prs_mem {as bs : List Ent} {Q : Ent → Ent → Bool} {x : D} (m : x ∈ prs as bs Q) : ∃ a b, x = ePr a b := by
  obtain ⟨a, _, m⟩ := List.mem_flatMap.mp m
  obtain ⟨b, _, rfl⟩ := List.mem_map.mp m
  exact ⟨a, b, rfl⟩
theorem prs_fz (as bs : List Ent) (Q : Ent → Ent → Bool) : fzns (prs as bs Q) = true := (fzns_iff _).mpr fun x m => by obtain ⟨a, b, rfl⟩ := prs_mem m; rfl
theorem prs_pl (as bs : List Ent) (Q : Ent → Ent → Bool) : plains (prs as bs Q) = true := (plains_iff _).mpr fun x m => by obtain ⟨a, b, rfl⟩ := prs_mem m; rfl
theorem deps_le {n : Nat} : ∀ xs : List D, (∀ x ∈ xs, x.dep ≤ n) → deps xs ≤ n
  | [], _ => Nat.zero_le _
  | x :: xs, h => by
    have := deps_le xs fun y m => h y (List.mem_cons_of_mem _ m)
    have := h x List.mem_cons_self
    simp only [deps]
    omega
theorem prs_sort (t u : List Pc) (Q : Ent → Ent → Bool) (hl : (prs (opP t) (opP u) Q).length ≤ 10000000) : dSort (prs (opP t) (opP u) Q) = some (.lst false (prs (opP t) (opP u) Q)) := by
  have pw := prs_pw (op_pw t) (op_pw u) Q
  have z1 := prs_fz (opP t) (opP u) Q
  have z2 := prs_pl (opP t) (opP u) Q
  have me : ∀ x ∈ prs (opP t) (opP u) Q, ∃ a b, x = ePr a b := fun x m => prs_mem m
  generalize prs (opP t) (opP u) Q = G at *
  have z3 : deps G ≤ 60 := deps_le G fun x m => by
    obtain ⟨a, b, rfl⟩ := me x m
    simp [ePr, ePl, D.dep, deps]
  have z4 : (G.all fun a => G.all fun b => PySem.W.alike (toPy a) (toPy b)) = true := by
    rw [List.all_eq_true]
    intro x mx
    rw [List.all_eq_true]
    intro y my
    obtain ⟨a, b, rfl⟩ := me x mx
    obtain ⟨c, d, rfl⟩ := me y my
    simp [ePr, ePl, toPy, toPys, alike, alikeAll]
  have z5 : G.all D.isTup = true := by
    rw [List.all_eq_true]
    intro x mx
    obtain ⟨a, b, rfl⟩ := me x mx
    rfl
  unfold dSort
  rw [if_pos (by simp [z1, z2, z3, z4, z5, enough' hl])]
  have : (G.mergeSort fun a b => !PySem.W.dataLt (toPy b) (toPy a)) = G := List.mergeSort_of_pairwise pw
  rw [this]
end Aw.L05

set_option Elab.async false
set_option linter.all false
set_option maxRecDepth 100000
set_option maxHeartbeats 4000000
/-! K05K: the law's own pairs. -/
namespace Aw.L05
open PySem K05
theorem lclash_v {wf k : Nat} {a b : Str} (ha : Knd a) (hb : Knd b) : callF T wf (k + 1) 22 [.str a, .str b] = .ok (.bl (kc a b)) [.str a, .str b] := by
  have hT : T[22]? = some ⟨2, 3, b_law_clash⟩ := rfl
  obtain ⟨xs, h1, h2, _, h4⟩ := srt_v ha hb
  unfold clL at h4
  simp [callF, hasSub, frzO, isDct, evd, keyOk, keyOk1, finF, exSs, exS, ev, evs, evo, evc, evi, R.bind, R.then, evVar, gt, fin, val, two, many, Opd.get, only, D.fzn, fzns, dCmp, gets, dBi, dBin, dAug, dNeg, asgS, asgT, asgTs, put, mayAsg, subK, augK, retV, fins, dTru, dLen, owns, opnds, mmR, dMm, Mm.md, callR0, callR, noExc, takes, puts, isTys, isTy, items, seqItems, grdOf, gOk, Ct.lock, clear, back, clearOk, D.fz, fzs, dSl, bound, D.isNon, lcR, dEq, D.plain, plains, D.dep, deps, deq, deqs, (by decide : 1 ≤ sizeLine), (by decide : 2 ≤ sizeLine), (by decide : 3 ≤ sizeLine), (by decide : 4 ≤ sizeLine), (by decide : 5 ≤ sizeLine), (by decide : 6 ≤ sizeLine), hT, b_law_clash, h1, h4, (by decide : 2 ≤ sizeLine)]
def qP (m : Bool) (a b : Ent) : Bool := sm a.2.1 b.2.1 && ((kc a.2.1.1 b.2.1.1 && !(m && (a.2.2 || b.2.2))) || (m && (!a.2.2 && (!b.2.2 && (km a.2.1.1 b.2.1.1 && !kc a.2.1.1 b.2.1.1)))))
def t_p2 : Ss := (.cons (.asg (.nm 10) (.bi .sorted (.cons (.lst (.cons (.ix (.var 5) (.cst (.int 0))) (.cons (.ix (.var 8) (.cst (.int 0))) .nil))) .nil))) (.cons (.iff (.bop true (.call 22 (.cons (.ix (.var 5) (.cst (.int 0))) (.cons (.ix (.var 8) (.cst (.int 0))) .nil))) (.not (.bop true (.var 2) (.bop false (.var 6) (.var 9))))) (.cons (.ex (.mm .append 3 (.cons (.tup (.cons (.var 4) (.cons (.var 7) .nil))) .nil))) .nil) (.cons (.iff (.bop true (.var 2) (.bop true (.not (.var 6)) (.bop true (.not (.var 9)) (.cmp .isIn (.var 10) (.lst (.cons (.lst (.cons (.cst (.str "read")) (.cons (.cst (.str "write")) .nil))) (.cons (.lst (.cons (.cst (.str "add")) (.cons (.cst (.str "read")) .nil))) .nil))))))) (.cons (.ex (.mm .append 3 (.cons (.tup (.cons (.var 4) (.cons (.var 7) .nil))) .nil))) .nil) .nil) .nil)) .nil))
def b_p1 : Ss := .cons (.iff (.cmp .eq (.sl (.var 5) (.yes (.cst (.int 1))) .no) (.sl (.var 8) (.yes (.cst (.int 1))) .no)) t_p2 .nil) .nil
def s_p1 : S := .forr (.tup [(.nm 7), (.nm 8), (.nm 9)]) (.e (.call 21 (.cons (.var 1) .nil))) b_p1
def s_p2 : S := .forr (.tup [(.nm 4), (.nm 5), (.nm 6)]) (.e (.call 21 (.cons (.var 0) .nil))) (.cons s_p1 .nil)
theorem b_pairs_eq : b_law_pairs = .cons (.asg (.nm 3) (.lst .nil)) (.cons s_p2 (.cons (.ret (.bi .tuple (.cons (.bi .sorted (.cons (.var 3) .nil)) .nil))) .nil)) := rfl
section
variable {args : List D} {cf : Nat → List D → FR} {wf : Nat}
theorem p1B {x0 x1 : Option D} {m : Bool} {F : List D} {a b : Ent} {x10 : Option D} (ha : Knd a.2.1.1) (hb : Knd b.2.1.1) (hF : F.length < sizeLine) (hc : cf 22 [.str a.2.1.1, .str b.2.1.1] = .ok (.bl (kc a.2.1.1 b.2.1.1)) [.str a.2.1.1, .str b.2.1.1]) :
    ∃ y10, exSs ⟨3, args, cf, wf, []⟩ b_p1 [x0, x1, some (.bl m), some (.lst false F), some (ePl a.1), some (eS a.2.1), some (.bl a.2.2), some (ePl b.1), some (eS b.2.1), some (.bl b.2.2), x10] =
      .nx [x0, x1, some (.bl m), some (.lst false (F ++ if qP m a b then [ePr a b] else [])), some (ePl a.1), some (eS a.2.1), some (.bl a.2.2), some (ePl b.1), some (eS b.2.1), some (.bl b.2.2), y10] := by
  obtain ⟨xs, h1, h2, h3, _⟩ := srt_v ha hb
  unfold rwL at h3
  obtain ⟨pa, ⟨ka, ca, ra⟩, oa⟩ := a
  obtain ⟨pb, ⟨kb, cb, rb⟩, ob⟩ := b
  simp only at ha hb hc h1 h3
  have f3 : (ePl pa).fzn = true := rfl
  have f4 : (ePl pb).fzn = true := rfl
  generalize hA : ePl pa = A at *
  generalize hB : ePl pb = B at *
  cases e1 : (ca == cb)
  · refine ⟨x10, ?_⟩
    simp [callF, hasSub, frzO, isDct, evd, keyOk, keyOk1, finF, exSs, exS, ev, evs, evo, evc, evi, R.bind, R.then, evVar, gt, fin, val, two, many, Opd.get, only, D.fzn, fzns, dCmp, gets, dBi, dBin, dAug, dNeg, asgS, asgT, asgTs, put, mayAsg, subK, augK, retV, fins, dTru, dLen, owns, opnds, mmR, dMm, Mm.md, callR0, callR, noExc, takes, puts, isTys, isTy, items, seqItems, grdOf, gOk, Ct.lock, clear, back, clearOk, D.fz, fzs, dSl, bound, D.isNon, lcR, dEq, D.plain, plains, D.dep, deps, deq, deqs, (by decide : 1 ≤ sizeLine), (by decide : 2 ≤ sizeLine), (by decide : 3 ≤ sizeLine), (by decide : 4 ≤ sizeLine), (by decide : 5 ≤ sizeLine), (by decide : 6 ≤ sizeLine), b_p1, eS, sm, qP, cut1, e1]
  · cases e2 : (ra == rb)
    · refine ⟨x10, ?_⟩
      simp [callF, hasSub, frzO, isDct, evd, keyOk, keyOk1, finF, exSs, exS, ev, evs, evo, evc, evi, R.bind, R.then, evVar, gt, fin, val, two, many, Opd.get, only, D.fzn, fzns, dCmp, gets, dBi, dBin, dAug, dNeg, asgS, asgT, asgTs, put, mayAsg, subK, augK, retV, fins, dTru, dLen, owns, opnds, mmR, dMm, Mm.md, callR0, callR, noExc, takes, puts, isTys, isTy, items, seqItems, grdOf, gOk, Ct.lock, clear, back, clearOk, D.fz, fzs, dSl, bound, D.isNon, lcR, dEq, D.plain, plains, D.dep, deps, deq, deqs, (by decide : 1 ≤ sizeLine), (by decide : 2 ≤ sizeLine), (by decide : 3 ≤ sizeLine), (by decide : 4 ≤ sizeLine), (by decide : 5 ≤ sizeLine), (by decide : 6 ≤ sizeLine), b_p1, eS, sm, qP, cut1, e1, e2]
    · refine ⟨some (.lst false xs), ?_⟩
      have l2 : 2 ≤ sizeLine := by decide
      cases hk : kc ka kb <;> cases m <;> cases oa <;> cases ob <;> rw [hk] at hc h3 <;>
        first
        | (simp [callF, hasSub, frzO, isDct, evd, keyOk, keyOk1, finF, exSs, exS, ev, evs, evo, evc, evi, R.bind, R.then, evVar, gt, fin, val, two, many, Opd.get, only, D.fzn, fzns, dCmp, gets, dBi, dBin, dAug, dNeg, asgS, asgT, asgTs, put, mayAsg, subK, augK, retV, fins, dTru, dLen, owns, opnds, mmR, dMm, Mm.md, callR0, callR, noExc, takes, puts, isTys, isTy, items, seqItems, grdOf, gOk, Ct.lock, clear, back, clearOk, D.fz, fzs, dSl, bound, D.isNon, lcR, dEq, D.plain, plains, D.dep, deps, deq, deqs, (by decide : 1 ≤ sizeLine), (by decide : 2 ≤ sizeLine), (by decide : 3 ≤ sizeLine), (by decide : 4 ≤ sizeLine), (by decide : 5 ≤ sizeLine), (by decide : 6 ≤ sizeLine), b_p1, t_p2, eS, sm, qP, cut1, e1, e2, h1, h2, hc, hk, ix_0, f3, f4, hF, l2, ePr, hA, hB]; done)
        | (cases hm : km ka kb <;> rw [hm] at h3 <;> simp [callF, hasSub, frzO, isDct, evd, keyOk, keyOk1, finF, exSs, exS, ev, evs, evo, evc, evi, R.bind, R.then, evVar, gt, fin, val, two, many, Opd.get, only, D.fzn, fzns, dCmp, gets, dBi, dBin, dAug, dNeg, asgS, asgT, asgTs, put, mayAsg, subK, augK, retV, fins, dTru, dLen, owns, opnds, mmR, dMm, Mm.md, callR0, callR, noExc, takes, puts, isTys, isTy, items, seqItems, grdOf, gOk, Ct.lock, clear, back, clearOk, D.fz, fzs, dSl, bound, D.isNon, lcR, dEq, D.plain, plains, D.dep, deps, deq, deqs, (by decide : 1 ≤ sizeLine), (by decide : 2 ≤ sizeLine), (by decide : 3 ≤ sizeLine), (by decide : 4 ≤ sizeLine), (by decide : 5 ≤ sizeLine), (by decide : 6 ≤ sizeLine), b_p1, t_p2, eS, sm, qP, cut1, e1, e2, h1, h2, h3, hc, hk, hm, ix_0, f3, f4, hF, l2, ePr, hA, hB])
theorem p1 {t u : List Pc} {m : Bool} {F0 : List D} {a : Ent} {x7 x8 x9 x10 : Option D} (ha : Knd a.2.1.1) (hu : ∀ b ∈ opP u, Knd b.2.1.1) (hl : (opP u).length ≤ 3000) (hF : F0.length ≤ 9000000)
    (hs : cf 21 [eD u] = .ok (.lst false ((opP u).map eF)) [eD u]) (hc : ∀ b ∈ opP u, cf 22 [.str a.2.1.1, .str b.2.1.1] = .ok (.bl (kc a.2.1.1 b.2.1.1)) [.str a.2.1.1, .str b.2.1.1]) :
    ∃ y7 y8 y9 y10, exS ⟨3, args, cf, wf, []⟩ s_p1 [some (eD t), some (eD u), some (.bl m), some (.lst false F0), some (ePl a.1), some (eS a.2.1), some (.bl a.2.2), x7, x8, x9, x10] =
      .nx [some (eD t), some (eD u), some (.bl m), some (.lst false (F0 ++ ((opP u).filter (qP m a)).map (ePr a))), some (ePl a.1), some (eS a.2.1), some (.bl a.2.2), y7, y8, y9, y10] := by
  have f2 := eD_fz1 u
  have he : evi ⟨3, args, cf, wf, []⟩ (.e (.call 21 (.cons (.var 1) .nil))) [some (eD t), some (eD u), some (.bl m), some (.lst false F0), some (ePl a.1), some (eS a.2.1), some (.bl a.2.2), x7, x8, x9, x10] =
      .ok (encI (fun _ b => eF b) 0 (opP u), []) [some (eD t), some (eD u), some (.bl m), some (.lst false F0), some (ePl a.1), some (eS a.2.1), some (.bl a.2.2), x7, x8, x9, x10] := by
    rw [← enc_map]
    have fz := eF_fz (opP u)
    generalize (opP u).map eF = G at *
    simp [callF, hasSub, frzO, isDct, evd, keyOk, keyOk1, finF, exSs, exS, ev, evs, evo, evc, evi, R.bind, R.then, evVar, gt, fin, val, two, many, Opd.get, only, D.fzn, fzns, dCmp, gets, dBi, dBin, dAug, dNeg, asgS, asgT, asgTs, put, mayAsg, subK, augK, retV, fins, dTru, dLen, owns, opnds, mmR, dMm, Mm.md, callR0, callR, noExc, takes, puts, isTys, isTy, items, seqItems, grdOf, gOk, Ct.lock, clear, back, clearOk, D.fz, fzs, dSl, bound, D.isNon, lcR, dEq, D.plain, plains, D.dep, deps, deq, deqs, dIn, (by decide : 1 ≤ sizeLine), (by decide : 2 ≤ sizeLine), (by decide : 3 ≤ sizeLine), (by decide : 4 ≤ sizeLine), (by decide : 5 ≤ sizeLine), (by decide : 6 ≤ sizeLine), f2, hs, fz]
  obtain ⟨ρ', h1, h2⟩ := for_ix (C := ⟨3, args, cf, wf, []⟩) (t := .tup [(.nm 7), (.nm 8), (.nm 9)]) (b := b_p1) (opP u) (fun F _ b => F ++ if qP m a b then [ePr a b] else [])
    (fun i F ρ => F.length ≤ 9000000 + i ∧ ∃ y7 y8 y9 y10, ρ = [some (eD t), some (eD u), some (.bl m), some (.lst false F), some (ePl a.1), some (eS a.2.1), some (.bl a.2.2), y7, y8, y9, y10]) F0 he rfl ⟨by omega, _, _, _, _, rfl⟩
    fun i b F ρ hi ⟨hl', y7, y8, y9, y10, e⟩ => by
      subst e
      have hil : i < (opP u).length := (List.getElem?_eq_some_iff.mp hi).1
      have hm := List.mem_of_getElem? hi
      have l3 : F.length < sizeLine := Nat.lt_of_le_of_lt (by omega : _ ≤ 10000000) (by decide)
      obtain ⟨z10, e1⟩ := p1B (args := args) (cf := cf) (wf := wf) (x0 := some (eD t)) (x1 := some (eD u)) (m := m) (F := F) (a := a) (b := b) (x10 := y10) ha (hu b hm) l3 (hc b hm)
      have f4 : (ePl b.1).fzn = true := rfl
      have f5 : (eS b.2.1).fzn = true := rfl
      refine ⟨[some (eD t), some (eD u), some (.bl m), some (.lst false F), some (ePl a.1), some (eS a.2.1), some (.bl a.2.2), some (ePl b.1), some (eS b.2.1), some (.bl b.2.2), y10], _, by simp [callF, hasSub, frzO, isDct, evd, keyOk, keyOk1, finF, exSs, exS, ev, evs, evo, evc, evi, R.bind, R.then, evVar, gt, fin, val, two, many, Opd.get, only, D.fzn, fzns, dCmp, gets, dBi, dBin, dAug, dNeg, asgS, asgT, asgTs, put, mayAsg, subK, augK, retV, fins, dTru, dLen, owns, opnds, mmR, dMm, Mm.md, callR0, callR, noExc, takes, puts, isTys, isTy, items, seqItems, grdOf, gOk, Ct.lock, clear, back, clearOk, D.fz, fzs, dSl, bound, D.isNon, lcR, dEq, D.plain, plains, D.dep, deps, deq, deqs, dIn, (by decide : 1 ≤ sizeLine), (by decide : 2 ≤ sizeLine), (by decide : 3 ≤ sizeLine), (by decide : 4 ≤ sizeLine), (by decide : 5 ≤ sizeLine), (by decide : 6 ≤ sizeLine), eF, f4, f5], .inl e1, rfl, ?_, _, _, _, _, rfl⟩
      rw [List.length_append]
      split <;> simp only [List.length_cons, List.length_nil] <;> omega
  obtain ⟨_, y7, y8, y9, y10, rfl⟩ := h2
  have e2 : ∀ bs : List Ent, bs.flatMap (fun b => if qP m a b then [ePr a b] else []) = (bs.filter (qP m a)).map (ePr a) := fun bs => by
    induction bs with
    | nil => rfl
    | cons b bs ih =>
      rw [List.flatMap_cons, ih, List.filter_cons]
      split <;> rfl
  rw [foldI_app, flatI_const, e2] at h1
  exact ⟨y7, y8, y9, y10, h1⟩
theorem p2 {t u : List Pc} {m : Bool} (ht : ∀ b ∈ opP t, Knd b.2.1.1) (hu : ∀ b ∈ opP u, Knd b.2.1.1) (hl0 : (opP t).length ≤ 3000) (hl : (opP u).length ≤ 3000)
    (hs0 : cf 21 [eD t] = .ok (.lst false ((opP t).map eF)) [eD t]) (hs : cf 21 [eD u] = .ok (.lst false ((opP u).map eF)) [eD u]) (hc : ∀ a ∈ opP t, ∀ b ∈ opP u, cf 22 [.str a.2.1.1, .str b.2.1.1] = .ok (.bl (kc a.2.1.1 b.2.1.1)) [.str a.2.1.1, .str b.2.1.1]) :
    ∃ y4 y5 y6 y7 y8 y9 y10, exS ⟨3, args, cf, wf, []⟩ s_p2 [some (eD t), some (eD u), some (.bl m), some (.lst false []), none, none, none, none, none, none, none] =
      .nx [some (eD t), some (eD u), some (.bl m), some (.lst false (prs (opP t) (opP u) (qP m))), y4, y5, y6, y7, y8, y9, y10] ∧ (prs (opP t) (opP u) (qP m)).length ≤ 9000000 := by
  have f2 := eD_fz1 t
  have he : evi ⟨3, args, cf, wf, []⟩ (.e (.call 21 (.cons (.var 0) .nil))) [some (eD t), some (eD u), some (.bl m), some (.lst false []), none, none, none, none, none, none, none] =
      .ok (encI (fun _ b => eF b) 0 (opP t), []) [some (eD t), some (eD u), some (.bl m), some (.lst false []), none, none, none, none, none, none, none] := by
    rw [← enc_map]
    have fz := eF_fz (opP t)
    generalize (opP t).map eF = G at *
    simp [callF, hasSub, frzO, isDct, evd, keyOk, keyOk1, finF, exSs, exS, ev, evs, evo, evc, evi, R.bind, R.then, evVar, gt, fin, val, two, many, Opd.get, only, D.fzn, fzns, dCmp, gets, dBi, dBin, dAug, dNeg, asgS, asgT, asgTs, put, mayAsg, subK, augK, retV, fins, dTru, dLen, owns, opnds, mmR, dMm, Mm.md, callR0, callR, noExc, takes, puts, isTys, isTy, items, seqItems, grdOf, gOk, Ct.lock, clear, back, clearOk, D.fz, fzs, dSl, bound, D.isNon, lcR, dEq, D.plain, plains, D.dep, deps, deq, deqs, dIn, (by decide : 1 ≤ sizeLine), (by decide : 2 ≤ sizeLine), (by decide : 3 ≤ sizeLine), (by decide : 4 ≤ sizeLine), (by decide : 5 ≤ sizeLine), (by decide : 6 ≤ sizeLine), f2, hs0, fz]
  obtain ⟨ρ', h1, h2⟩ := for_ix (C := ⟨3, args, cf, wf, []⟩) (t := .tup [(.nm 4), (.nm 5), (.nm 6)]) (b := .cons s_p1 .nil) (opP t) (fun F _ a => F ++ ((opP u).filter (qP m a)).map (ePr a))
    (fun i F ρ => F.length ≤ 3000 * i ∧ ∃ y4 y5 y6 y7 y8 y9 y10, ρ = [some (eD t), some (eD u), some (.bl m), some (.lst false F), y4, y5, y6, y7, y8, y9, y10]) [] he rfl ⟨by simp, _, _, _, _, _, _, _, rfl⟩
    fun i a F ρ hi ⟨hl', y4, y5, y6, y7, y8, y9, y10, e⟩ => by
      subst e
      have hil : i < (opP t).length := (List.getElem?_eq_some_iff.mp hi).1
      have hm := List.mem_of_getElem? hi
      have lf := List.length_filter_le (qP m a) (opP u)
      obtain ⟨z7, z8, z9, z10, e1⟩ := p1 (args := args) (cf := cf) (wf := wf) (t := t) (u := u) (m := m) (F0 := F) (a := a) (x7 := y7) (x8 := y8) (x9 := y9) (x10 := y10) (ht a hm) hu hl (by omega) hs (hc a hm)
      have f4 : (ePl a.1).fzn = true := rfl
      have f5 : (eS a.2.1).fzn = true := rfl
      refine ⟨[some (eD t), some (eD u), some (.bl m), some (.lst false F), some (ePl a.1), some (eS a.2.1), some (.bl a.2.2), y7, y8, y9, y10], [some (eD t), some (eD u), some (.bl m), some (.lst false (F ++ ((opP u).filter (qP m a)).map (ePr a))), some (ePl a.1), some (eS a.2.1), some (.bl a.2.2), z7, z8, z9, z10], by simp [callF, hasSub, frzO, isDct, evd, keyOk, keyOk1, finF, exSs, exS, ev, evs, evo, evc, evi, R.bind, R.then, evVar, gt, fin, val, two, many, Opd.get, only, D.fzn, fzns, dCmp, gets, dBi, dBin, dAug, dNeg, asgS, asgT, asgTs, put, mayAsg, subK, augK, retV, fins, dTru, dLen, owns, opnds, mmR, dMm, Mm.md, callR0, callR, noExc, takes, puts, isTys, isTy, items, seqItems, grdOf, gOk, Ct.lock, clear, back, clearOk, D.fz, fzs, dSl, bound, D.isNon, lcR, dEq, D.plain, plains, D.dep, deps, deq, deqs, dIn, (by decide : 1 ≤ sizeLine), (by decide : 2 ≤ sizeLine), (by decide : 3 ≤ sizeLine), (by decide : 4 ≤ sizeLine), (by decide : 5 ≤ sizeLine), (by decide : 6 ≤ sizeLine), eF, f4, f5], .inl ?_, rfl, by rw [List.length_append, List.length_map]; omega, _, _, _, _, _, _, _, rfl⟩
      simp only [exSs]
      rw [show Ct.lock ⟨3, args, cf, wf, []⟩ [] = ⟨3, args, cf, wf, []⟩ from rfl, e1]
  obtain ⟨hz, y4, y5, y6, y7, y8, y9, y10, rfl⟩ := h2
  rw [foldI_app, List.nil_append, flatI_const] at h1 hz
  exact ⟨y4, y5, y6, y7, y8, y9, y10, h1, Nat.le_trans hz (by omega)⟩
end
theorem op_knd {t : List Pc} (hg : Good t) : ∀ b ∈ opP t, Knd b.2.1.1 := fun b m => by
  obtain ⟨i, j, k, p, st, s, h1, h2, h3, rfl⟩ := op_mem m
  exact ((hg.pc p (List.mem_of_getElem? h1)).st st (List.mem_of_getElem? h2)).2 s (List.mem_of_getElem? h3)
theorem pairs_v {wf k : Nat} {t u : List Pc} (m : Bool) (ht : Good t) (hu : Good u) : callF T wf (k + 2) 23 [eD t, eD u, .bl m] = .ok (.tup (prs (opP t) (opP u) (qP m))) [eD t, eD u, .bl m] := by
  have hT : T[23]? = some ⟨3, 11, b_law_pairs⟩ := rfl
  have kt := op_knd ht
  have ku := op_knd hu
  obtain ⟨y4, y5, y6, y7, y8, y9, y10, e, hl⟩ := p2 (args := [eD t, eD u, .bl m]) (cf := callF T wf (k + 1)) (wf := wf) (m := m) kt ku (opP_len ht) (opP_len hu) (steps_v ht) (steps_v hu) (fun a ma b mb => lclash_v (kt a ma) (ku b mb))
  have srt := prs_sort t u (qP m) (by omega)
  have fz := prs_fz (opP t) (opP u) (qP m)
  have f1 := eD_fz1 t
  have f2 := eD_fz1 u
  rw [callF, hT]
  generalize callF T wf (k + 1) = cf at *
  generalize prs (opP t) (opP u) (qP m) = G at *
  simp [callF, hasSub, frzO, isDct, evd, keyOk, keyOk1, finF, exSs, exS, ev, evs, evo, evc, evi, R.bind, R.then, evVar, gt, fin, val, two, many, Opd.get, only, D.fzn, fzns, dCmp, gets, dBi, dBin, dAug, dNeg, asgS, asgT, asgTs, put, mayAsg, subK, augK, retV, fins, dTru, dLen, owns, opnds, mmR, dMm, Mm.md, callR0, callR, noExc, takes, puts, isTys, isTy, items, seqItems, grdOf, gOk, Ct.lock, clear, back, clearOk, D.fz, fzs, dSl, bound, D.isNon, lcR, dEq, D.plain, plains, D.dep, deps, deq, deqs, dIn, (by decide : 1 ≤ sizeLine), (by decide : 2 ≤ sizeLine), (by decide : 3 ≤ sizeLine), (by decide : 4 ≤ sizeLine), (by decide : 5 ≤ sizeLine), (by decide : 6 ≤ sizeLine), b_pairs_eq, e, f1, f2, srt, fz, (by decide : 0 ≤ sizeLine)]

/-! ### the two agree -/
theorem kc_km {a b : Str} (ha : Knd a) (hb : Knd b) : kc a b = true → km a b = true := by
  have z : (!kc a b || km a b) = true := by rcases ha with rfl | rfl | rfl | rfl <;> rcases hb with rfl | rfl | rfl | rfl <;> kernel_rfl
  intro h
  rw [h] at z
  simpa using z
theorem meets_eq {as bs : List Ent} (ha : ∀ a ∈ as, Knd a.2.1.1) (hb : ∀ b ∈ bs, Knd b.2.1.1) :
    ((as.filter fun e => !e.2.2).flatMap fun a => ((bs.filter fun e => !e.2.2).filter fun b => sm a.2.1 b.2.1 && km a.2.1.1 b.2.1.1).map (ePr a)) = prs as bs (qP true) := by
  have inner : ∀ a, Knd a.2.1.1 → a.2.2 = false → ∀ bs : List Ent, (∀ b ∈ bs, Knd b.2.1.1) → (bs.filter fun e => !e.2.2).filter (fun b => sm a.2.1 b.2.1 && km a.2.1.1 b.2.1.1) = bs.filter (qP true a) := fun a ka oa bs hb => by
    rw [List.filter_filter]
    refine List.filter_congr fun b m => ?_
    have kb := hb b m
    have i := kc_km ka kb
    unfold qP
    rw [oa]
    cases h1 : kc a.2.1.1 b.2.1.1
    · cases km a.2.1.1 b.2.1.1 <;> cases sm a.2.1 b.2.1 <;> cases b.2.2 <;> rfl
    · rw [i h1]
      cases sm a.2.1 b.2.1 <;> cases b.2.2 <;> rfl
  have none_ : ∀ a : Ent, a.2.2 = true → bs.filter (qP true a) = [] := fun a oa => by
    rw [List.filter_eq_nil_iff]
    intro b _
    unfold qP
    rw [oa]
    cases sm a.2.1 b.2.1 <;> cases kc a.2.1.1 b.2.1.1 <;> cases b.2.2 <;> simp
  induction as with
  | nil => rfl
  | cons a as ih =>
    have ih := ih fun x m => ha x (List.mem_cons_of_mem _ m)
    unfold prs at ih ⊢
    rw [List.flatMap_cons, List.filter_cons, ← ih]
    cases oa : a.2.2 with
    | true =>
      simp only [Bool.not_true, Bool.false_eq_true, if_false, none_ a oa, List.map_nil, List.nil_append]
    | false =>
      simp only [Bool.not_false, if_true, List.flatMap_cons]
      rw [inner a (ha a List.mem_cons_self) oa bs hb]
theorem clash_eq (as bs : List Ent) : (as.flatMap fun a => (bs.filter fun b => sm a.2.1 b.2.1 && kc a.2.1.1 b.2.1.1).map (ePr a)) = prs as bs (qP false) := by
  unfold prs
  congr 1
  funext a
  congr 2
  funext b
  unfold qP
  simp
theorem meetings_v {wf k : Nat} {t u : List Pc} (ht : Good t) (hu : Good u) : callF T wf (k + 4) 10 [eD t, eD u] = .ok (.tup (prs (opP t) (opP u) (qP true))) [eD t, eD u] := by
  have kt := op_knd ht
  have ku := op_knd hu
  rw [← meets_eq kt ku]
  exact mc_v (g := 7) (f := 8) (T := T) (Q := fun s u => sm s u && km s.1 u.1) (by rw [← b_mc1]; rfl) (open_v ht) (open_v hu) (Nat.le_trans (List.length_filter_le _ _) (opP_len ht)) (Nat.le_trans (List.length_filter_le _ _) (opP_len hu))
    fun a ma b mb => meet_v (kt a (List.mem_filter.mp ma).1) (ku b (List.mem_filter.mp mb).1)
theorem clashes_v {wf k : Nat} {t u : List Pc} (ht : Good t) (hu : Good u) : callF T wf (k + 4) 11 [eD t, eD u] = .ok (.tup (prs (opP t) (opP u) (qP false))) [eD t, eD u] := by
  have kt := op_knd ht
  have ku := op_knd hu
  rw [← clash_eq]
  exact mc_v (g := 6) (f := 9) (T := T) (Q := fun s u => sm s u && kc s.1 u.1) (by rw [← b_mc2]; rfl) (placed_v ht) (placed_v hu) (opP_len ht) (opP_len hu)
    fun a ma b mb => clash_v (kt a ma) (ku b mb)
end Aw.L05

set_option Elab.async false
set_option linter.all false
set_option maxRecDepth 100000
set_option maxHeartbeats 4000000
/-! K05M: _law_same, _law_mixed. -/
namespace Aw.L05
open PySem K05
def Tree : Nat → D → Prop
  | 0, d => ∃ i, d = .int i
  | n + 1, d => (∃ i, d = .int i) ∨ ∃ xs, d = .tup xs ∧ xs.length ≤ 9000000 ∧ ∀ x ∈ xs, Tree n x
theorem tree_fz : ∀ (n : Nat) (d : D), Tree n d → d.fzn = true
  | 0, d, h => by obtain ⟨i, rfl⟩ := h; rfl
  | n + 1, d, h => by
    rcases h with ⟨i, rfl⟩ | ⟨xs, rfl, _, g⟩
    · rfl
    · exact (fzns_iff xs).mpr fun x m => tree_fz n x (g x m)
def b_same1 : Ss := .cons (.iff (.not (.call 20 (.cons (.ix (.var 0) (.var 2)) (.cons (.ix (.var 1) (.var 2)) .nil)))) (.cons (.ret (.cst (.bl false))) .nil) .nil) .nil
def s_same : S := .forr (.nm 2) (.rng (.cons (.bi .len (.cons (.var 1) .nil)) .nil)) b_same1
theorem b_same_eq : b_law_same = (.cons (.iff (.isi (.var 1) [.int]) (.cons (.ret (.bop true (.isi (.var 0) [.int]) (.bop true (.not (.isi (.var 0) [.bool])) (.cmp .eq (.var 0) (.var 1))))) .nil) .nil) (.cons (.iff (.bop false (.not (.isi (.var 0) [.tuple])) (.cmp .ne (.bi .len (.cons (.var 0) .nil)) (.bi .len (.cons (.var 1) .nil)))) (.cons (.ret (.cst (.bl false))) .nil) .nil) (.cons s_same (.cons (.ret (.cst (.bl true))) .nil)))) := rfl
theorem same_int {wf k : Nat} {i : Int} : callF T wf (k + 1) 20 [.int i, .int i] = .ok (.bl true) [.int i, .int i] := by
  have hT : T[20]? = some ⟨2, 3, b_law_same⟩ := rfl
  simp [callF, hasSub, frzO, isDct, evd, keyOk, keyOk1, finF, exSs, exS, ev, evs, evo, evc, evi, R.bind, R.then, evVar, gt, fin, val, two, many, Opd.get, dIx, L2.atI, L2.ixN, only, D.fzn, fzns, dCmp, gets, dBi, dBin, dAug, dNeg, asgS, asgT, asgTs, put, mayAsg, subK, augK, retV, fins, dTru, dLen, owns, opnds, mmR, dMm, Mm.md, callR0, callR, noExc, takes, puts, isTys, isTy, items, seqItems, grdOf, gOk, Ct.lock, clear, back, clearOk, D.fz, fzs, dSl, bound, D.isNon, lcR, dEq, D.plain, plains, D.dep, deps, deq, deqs, dIn, (by decide : 1 ≤ sizeLine), (by decide : 2 ≤ sizeLine), (by decide : 3 ≤ sizeLine), (by decide : 4 ≤ sizeLine), (by decide : 5 ≤ sizeLine), (by decide : 6 ≤ sizeLine), hT, b_same_eq]
theorem same_v : ∀ (n : Nat) {wf k : Nat} (d : D), Tree n d → callF T wf (k + n + 1) 20 [d, d] = .ok (.bl true) [d, d]
  | 0, wf, k, d, h => by obtain ⟨i, rfl⟩ := h; exact same_int
  | n + 1, wf, k, d, h => by
    rcases h with ⟨i, rfl⟩ | ⟨xs, rfl, hl, g⟩
    · exact same_int
    · have hT : T[20]? = some ⟨2, 3, b_law_same⟩ := rfl
      have ih : ∀ x ∈ xs, callF T wf (k + (n + 1)) 20 [x, x] = .ok (.bl true) [x, x] := fun x m => same_v n (k := k) x (g x m)
      have fx : ∀ x ∈ xs, x.fzn = true := fun x m => tree_fz n x (g x m)
      have fz : fzns xs = true := (fzns_iff xs).mpr fx
      rw [callF, hT]
      generalize callF T wf (k + (n + 1)) = cf at *
      have l1 : (xs.length : Int) ≤ (sizeLine : Nat) := by have := enough' (by omega : xs.length ≤ 10000000); omega
      have l2 : -4611686018427387904 ≤ (xs.length : Int) := by omega
      have he : evi ⟨2, [.tup xs, .tup xs], cf, wf, []⟩ (.rng (.cons (.bi .len (.cons (.var 1) .nil)) .nil)) [some (.tup xs), some (.tup xs), none] = .ok (encI (fun k (_ : D) => D.int (k : Int)) 0 xs, []) [some (.tup xs), some (.tup xs), none] := by
        rw [← enc_rng]
        simp [callF, hasSub, frzO, isDct, evd, keyOk, keyOk1, finF, exSs, exS, ev, evs, evo, evc, evi, R.bind, R.then, evVar, gt, fin, val, two, many, Opd.get, dIx, L2.atI, L2.ixN, only, D.fzn, fzns, dCmp, gets, dBi, dBin, dAug, dNeg, asgS, asgT, asgTs, put, mayAsg, subK, augK, retV, fins, dTru, dLen, owns, opnds, mmR, dMm, Mm.md, callR0, callR, noExc, takes, puts, isTys, isTy, items, seqItems, grdOf, gOk, Ct.lock, clear, back, clearOk, D.fz, fzs, dSl, bound, D.isNon, lcR, dEq, D.plain, plains, D.dep, deps, deq, deqs, dIn, (by decide : 1 ≤ sizeLine), (by decide : 2 ≤ sizeLine), (by decide : 3 ≤ sizeLine), (by decide : 4 ≤ sizeLine), (by decide : 5 ≤ sizeLine), (by decide : 6 ≤ sizeLine), dRng, l1, l2]
      obtain ⟨ρ', h1, h2⟩ := for_ix (C := ⟨2, [.tup xs, .tup xs], cf, wf, []⟩) (t := .nm 2) (b := b_same1) xs (fun (_ : Unit) _ _ => ()) (fun _ _ ρ => ∃ y2, ρ = [some (.tup xs), some (.tup xs), y2]) () he rfl ⟨_, rfl⟩
        fun i x _ ρ hi ⟨y2, e⟩ => by
          subst e
          have m := List.mem_of_getElem? hi
          have a := ix_tup hi
          refine ⟨[some (.tup xs), some (.tup xs), some (.int (i : Int))], [some (.tup xs), some (.tup xs), some (.int (i : Int))], by simp [callF, hasSub, frzO, isDct, evd, keyOk, keyOk1, finF, exSs, exS, ev, evs, evo, evc, evi, R.bind, R.then, evVar, gt, fin, val, two, many, Opd.get, dIx, L2.atI, L2.ixN, only, D.fzn, fzns, dCmp, gets, dBi, dBin, dAug, dNeg, asgS, asgT, asgTs, put, mayAsg, subK, augK, retV, fins, dTru, dLen, owns, opnds, mmR, dMm, Mm.md, callR0, callR, noExc, takes, puts, isTys, isTy, items, seqItems, grdOf, gOk, Ct.lock, clear, back, clearOk, D.fz, fzs, dSl, bound, D.isNon, lcR, dEq, D.plain, plains, D.dep, deps, deq, deqs, dIn, (by decide : 1 ≤ sizeLine), (by decide : 2 ≤ sizeLine), (by decide : 3 ≤ sizeLine), (by decide : 4 ≤ sizeLine), (by decide : 5 ≤ sizeLine), (by decide : 6 ≤ sizeLine)], .inl ?_, rfl, _, rfl⟩
          simp [callF, hasSub, frzO, isDct, evd, keyOk, keyOk1, finF, exSs, exS, ev, evs, evo, evc, evi, R.bind, R.then, evVar, gt, fin, val, two, many, Opd.get, only, D.fzn, fzns, dCmp, gets, dBi, dBin, dAug, dNeg, asgS, asgT, asgTs, put, mayAsg, subK, augK, retV, fins, dTru, dLen, owns, opnds, mmR, dMm, Mm.md, callR0, callR, noExc, takes, puts, isTys, isTy, items, seqItems, grdOf, gOk, Ct.lock, clear, back, clearOk, D.fz, fzs, dSl, bound, D.isNon, lcR, dEq, D.plain, plains, D.dep, deps, deq, deqs, dIn, (by decide : 1 ≤ sizeLine), (by decide : 2 ≤ sizeLine), (by decide : 3 ≤ sizeLine), (by decide : 4 ≤ sizeLine), (by decide : 5 ≤ sizeLine), (by decide : 6 ≤ sizeLine), b_same1, a, fx x m, ih x m]
      obtain ⟨y2, rfl⟩ := h2
      have h1' : exS ⟨2, [.tup xs, .tup xs], cf, wf, []⟩ s_same [some (.tup xs), some (.tup xs), none] = _ := h1
      simp [callF, hasSub, frzO, isDct, evd, keyOk, keyOk1, finF, exSs, exS, ev, evs, evo, evc, evi, R.bind, R.then, evVar, gt, fin, val, two, many, Opd.get, only, D.fzn, fzns, dCmp, gets, dBi, dBin, dAug, dNeg, asgS, asgT, asgTs, put, mayAsg, subK, augK, retV, fins, dTru, dLen, owns, opnds, mmR, dMm, Mm.md, callR0, callR, noExc, takes, puts, isTys, isTy, items, seqItems, grdOf, gOk, Ct.lock, clear, back, clearOk, D.fz, fzs, dSl, bound, D.isNon, lcR, dEq, D.plain, plains, D.dep, deps, deq, deqs, dIn, (by decide : 1 ≤ sizeLine), (by decide : 2 ≤ sizeLine), (by decide : 3 ≤ sizeLine), (by decide : 4 ≤ sizeLine), (by decide : 5 ≤ sizeLine), (by decide : 6 ≤ sizeLine), b_same_eq, h1', fz]

/-! ### _law_mixed -/
theorem mkS {a b c : Str} : D.tup ([D.str a] ++ [D.str b, D.str c]) = eS (a, b, c) := rfl
def b_m1 : Ss := (.cons (.asg (.nm 7) (.ix (.tup (.cons (.cst (.str "read")) (.cons (.cst (.str "hold")) (.cons (.cst (.str "add")) (.cons (.cst (.str "write")) .nil))))) (.call 13 (.cons (.var 0) (.cons (.cst (.int 4)) .nil))))) (.cons (.ex (.mm .append 2 (.cons (.tup (.cons (.bin .add (.tup (.cons (.var 7) .nil)) (.ix (.var 1) (.call 13 (.cons (.var 0) (.cons (.cst (.int 2)) .nil))))) .nil)) .nil))) .nil))
def s_m1 : S := .forr (.nm 3) (.rng (.cons (.cst (.int 3)) .nil)) b_m1
def e_m2 : E := .lc [8] (.nm 8) (.e (.var 6)) .no (.tup (.cons (.ix (.tup (.cons (.cst (.str "now")) (.cons (.cst (.str "begin")) .nil))) (.call 13 (.cons (.var 0) (.cons (.cst (.int 2)) .nil)))) (.cons (.bi .tuple (.cons (.var 8) .nil)) .nil)))
def b_m2 : Ss := (.cons (.asg (.nm 4) (.bin .add (.tup (.cons (.ix (.tup (.cons (.cst (.str "read")) (.cons (.cst (.str "hold")) .nil))) (.call 13 (.cons (.var 0) (.cons (.cst (.int 2)) .nil)))) .nil)) (.ix (.var 1) (.cst (.int 0))))) (.cons (.ex (.mm .insert 2 (.cons (.call 13 (.cons (.var 0) (.cons (.cst (.int 4)) .nil))) (.cons (.tup (.cons (.bin .add (.tup (.cons (.cst (.str "write")) .nil)) (.ix (.var 1) (.cst (.int 0)))) (.cons (.var 4) .nil))) .nil)))) (.cons (.ex (.mm .append 2 (.cons (.tup (.cons (.var 4) .nil)) .nil))) (.cons (.asg (.nm 5) (.call 13 (.cons (.var 0) (.cons (.cst (.int 6)) .nil)))) (.cons (.asg (.nm 6) (.ite (.cmp2 .lt .lt (.cst (.int 0)) (.var 5) (.cst (.int 5))) (.lst (.cons (.frz (.sl (.var 2) .no (.yes (.var 5)))) (.cons (.frz (.sl (.var 2) (.yes (.var 5)) .no)) .nil))) (.lst (.cons (.var 2) .nil)))) (.cons (.ret (.bi .tuple (.cons e_m2 .nil))) .nil))))))
def c_A : S := .asg (.nm 4) (.bin .add (.tup (.cons (.ix (.tup (.cons (.cst (.str "read")) (.cons (.cst (.str "hold")) .nil))) (.call 13 (.cons (.var 0) (.cons (.cst (.int 2)) .nil)))) .nil)) (.ix (.var 1) (.cst (.int 0))))
def c_B : S := .ex (.mm .insert 2 (.cons (.call 13 (.cons (.var 0) (.cons (.cst (.int 4)) .nil))) (.cons (.tup (.cons (.bin .add (.tup (.cons (.cst (.str "write")) .nil)) (.ix (.var 1) (.cst (.int 0)))) (.cons (.var 4) .nil))) .nil)))
def c_C : S := .ex (.mm .append 2 (.cons (.tup (.cons (.var 4) .nil)) .nil))
def c_D : S := .asg (.nm 5) (.call 13 (.cons (.var 0) (.cons (.cst (.int 6)) .nil)))
def c_E : S := .asg (.nm 6) (.ite (.cmp2 .lt .lt (.cst (.int 0)) (.var 5) (.cst (.int 5))) (.lst (.cons (.frz (.sl (.var 2) .no (.yes (.var 5)))) (.cons (.frz (.sl (.var 2) (.yes (.var 5)) .no)) .nil))) (.lst (.cons (.var 2) .nil)))
theorem b_m2_eq : b_m2 = .cons c_A (.cons c_B (.cons c_C (.cons c_D (.cons c_E (.cons (.ret (.bi .tuple (.cons e_m2 .nil))) .nil))))) := rfl
theorem b_mixed_eq : b_law_mixed = .cons (.asg (.nm 2) (.lst .nil)) (.cons s_m1 b_m2) := rfl
theorem cut_take0 {α : Type} (xs : List α) : cut xs (some ((0 : Nat) : Int)) none = xs.drop 0 := by
  unfold cut
  rw [HT.sIx_none, HT.sIx_nat]
  simp
mutual
theorem fz_id : ∀ d : D, d.fzn = true → d.fz = d
  | .non, _ => rfl
  | .bl _, _ => rfl
  | .int _, _ => rfl
  | .str _, _ => rfl
  | .tup xs, h => by simp only [D.fzn] at h; simp only [D.fz, fzs_id xs h]
  | .lst f xs, h => by
    simp only [D.fzn, Bool.and_eq_true] at h
    simp only [D.fz, fzs_id xs h.2, h.1]
  | .dct f t ks vs, h => by
    simp only [D.fzn, Bool.and_eq_true] at h
    simp only [D.fz, fzs_id ks h.1.2, fzs_id vs h.2, h.1.1]
  | .set f xs, h => by
    simp only [D.fzn, Bool.and_eq_true] at h
    simp only [D.fz, fzs_id xs h.2, h.1]
  | .obj _ _, _ => rfl
theorem fzs_id : ∀ ds : List D, fzns ds = true → fzs ds = ds
  | [], _ => rfl
  | d :: ds, h => by
    simp only [fzns, Bool.and_eq_true] at h
    simp only [fzs, fz_id d h.1, fzs_id ds h.2]
end
section
variable {args : List D} {cf : Nat → List D → FR} {wf n : Nat}
abbrev SmS (st : List St3) : Prop := st.length ≤ 30 ∧ ∀ x ∈ st, Knd x.1
theorem slot_at {sl : List D} (hs : ∀ x ∈ sl, Slot x) {r : Nat} (h : r < sl.length) : ∃ u v : Str, dIx (.lst false sl) (.int (r : Int)) = some (.tup [.str u, .str v]) := by
  obtain ⟨y, e, m⟩ := at_some h
  obtain ⟨u, v, rfl⟩ := hs y m
  exact ⟨u, v, ix_lst e⟩
theorem m1 (hd : DrawS (cf 13)) {sl : List D} {p : P3} (hp : PoolP (n + 6) p) (h2 : 2 ≤ sl.length) (hs : ∀ x ∈ sl, Slot x) :
    ∃ (p' : P3) (L : List (List St3)) (y3 y7 : Option D), exS ⟨2, args, cf, wf, []⟩ s_m1 [some (pd p), some (.lst false sl), some (.lst false []), none, none, none, none, none, none] =
      .nx [some (pd p'), some (.lst false sl), some (.lst false (L.map eSt)), y3, none, none, none, y7, none] ∧ PoolP n p' ∧ L.length = 3 ∧ ∀ st ∈ L, SmS st := by
  have he : evi ⟨2, args, cf, wf, []⟩ (.rng (.cons (.cst (.int 3)) .nil)) [some (pd p), some (.lst false sl), some (.lst false []), none, none, none, none, none, none] =
      .ok (encI (fun k (_ : Unit) => D.int (k : Int)) 0 [(), (), ()], []) [some (pd p), some (.lst false sl), some (.lst false []), none, none, none, none, none, none] := by
    rw [← enc_rng]
    simp [callF, hasSub, frzO, isDct, evd, keyOk, keyOk1, finF, exSs, exS, ev, evs, evo, evc, evi, R.bind, R.then, evVar, gt, fin, val, two, many, Opd.get, dIx, L2.atI, L2.ixN, only, D.fzn, fzns, dCmp, gets, dBi, dBin, dAug, dNeg, asgS, asgT, asgTs, put, mayAsg, subK, augK, retV, fins, dTru, dLen, owns, opnds, mmR, dMm, Mm.md, callR0, callR, noExc, takes, puts, isTys, isTy, items, seqItems, grdOf, gOk, Ct.lock, clear, back, clearOk, D.fz, fzs, dSl, bound, D.isNon, lcR, dEq, D.plain, plains, D.dep, deps, deq, deqs, dIn, (by decide : 1 ≤ sizeLine), (by decide : 2 ≤ sizeLine), (by decide : 3 ≤ sizeLine), (by decide : 4 ≤ sizeLine), (by decide : 5 ≤ sizeLine), (by decide : 6 ≤ sizeLine), show dRng [.int 3] = some (rngL 0 3) from rng1 (n := 3) (by decide)]
  obtain ⟨ρ', h1, h2'⟩ := for_ix (C := ⟨2, args, cf, wf, []⟩) (t := .nm 3) (b := b_m1) [(), (), ()] (fun (_ : Unit) _ _ => ())
    (fun i _ ρ => i ≤ 3 ∧ ∃ (p' : P3) (L : List (List St3)) (y3 y7 : Option D), ρ = [some (pd p'), some (.lst false sl), some (.lst false (L.map eSt)), y3, none, none, none, y7, none] ∧ PoolP (n + 2 * (3 - i)) p' ∧ L.length = i ∧ ∀ st ∈ L, SmS st) () he rfl ⟨by omega, p, [], _, _, rfl, hp, rfl, by simp⟩
    fun i _ _ ρ hi ⟨_, p1, L, y3, y7, e, q, hl, hL⟩ => by
      subst e
      have hil : i < 3 := (List.getElem?_eq_some_iff.mp hi).1
      obtain ⟨r, p2, e1, q1, hr⟩ := hd (n + 2 * (3 - (i + 1)) + 1) p1 4 (q.mono (by omega)) (by decide) (by decide)
      obtain ⟨r2, p3, e2, q2, hr2⟩ := hd (n + 2 * (3 - (i + 1))) p2 2 q1 (by decide) (by decide)
      obtain ⟨kd, kk, ek⟩ : ∃ kd : Str, Knd kd ∧ dIx (.tup [.str "read", .str "hold", .str "add", .str "write"]) (.int (r : Int)) = some (.str kd) := by
        have : r = 0 ∨ r = 1 ∨ r = 2 ∨ r = 3 := by omega
        rcases this with h | h | h | h <;> subst h
        · exact ⟨_, .inl rfl, rfl⟩
        · exact ⟨_, .inr (.inr (.inl rfl)), rfl⟩
        · exact ⟨_, .inr (.inr (.inr rfl)), rfl⟩
        · exact ⟨_, .inr (.inl rfl), rfl⟩
      obtain ⟨u, v, es⟩ := slot_at hs (by omega : r2 < sl.length)
      have zs := slot_fz hs
      have lL : (L.map eSt).length < sizeLine := Nat.lt_of_le_of_lt (by rw [List.length_map]; omega : _ ≤ 1000) (by decide)
      refine ⟨[some (pd p1), some (.lst false sl), some (.lst false (L.map eSt)), some (.int (i : Int)), none, none, none, y7, none], [some (pd p3), some (.lst false sl), some (.lst false ((L ++ [[(kd, u, v)]]).map eSt)), some (.int (i : Int)), none, none, none, some (.str kd), none], by simp [callF, hasSub, frzO, isDct, evd, keyOk, keyOk1, finF, exSs, exS, ev, evs, evo, evc, evi, R.bind, R.then, evVar, gt, fin, val, two, many, Opd.get, dIx, L2.atI, L2.ixN, only, D.fzn, fzns, dCmp, gets, dBi, dBin, dAug, dNeg, asgS, asgT, asgTs, put, mayAsg, subK, augK, retV, fins, dTru, dLen, owns, opnds, mmR, dMm, Mm.md, callR0, callR, noExc, takes, puts, isTys, isTy, items, seqItems, grdOf, gOk, Ct.lock, clear, back, clearOk, D.fz, fzs, dSl, bound, D.isNon, lcR, dEq, D.plain, plains, D.dep, deps, deq, deqs, dIn, (by decide : 1 ≤ sizeLine), (by decide : 2 ≤ sizeLine), (by decide : 3 ≤ sizeLine), (by decide : 4 ≤ sizeLine), (by decide : 5 ≤ sizeLine), (by decide : 6 ≤ sizeLine)], .inl ?_, rfl, by omega, p3, _, _, _, rfl, q2, by simp [hl], fun st m => ?_⟩
      · rw [List.map_append]
        generalize L.map eSt = B at *
        simp [callF, hasSub, frzO, isDct, evd, keyOk, keyOk1, finF, exSs, exS, ev, evs, evo, evc, evi, R.bind, R.then, evVar, gt, fin, val, two, many, Opd.get, only, D.fzn, fzns, dCmp, gets, dBi, dBin, dAug, dNeg, asgS, asgT, asgTs, put, mayAsg, subK, augK, retV, fins, dTru, dLen, owns, opnds, mmR, dMm, Mm.md, callR0, callR, noExc, takes, puts, isTys, isTy, items, seqItems, grdOf, gOk, Ct.lock, clear, back, clearOk, D.fz, fzs, dSl, bound, D.isNon, lcR, dEq, D.plain, plains, D.dep, deps, deq, deqs, dIn, (by decide : 1 ≤ sizeLine), (by decide : 2 ≤ sizeLine), (by decide : 3 ≤ sizeLine), (by decide : 4 ≤ sizeLine), (by decide : 5 ≤ sizeLine), (by decide : 6 ≤ sizeLine), b_m1, e1, e2, ek, es, lL, eSt, eS, (by decide : 1 + 2 ≤ sizeLine)]
      · rcases List.mem_append.mp m with m | m
        · exact hL st m
        · rw [List.mem_singleton.mp m]
          exact ⟨by simp, by simpa using kk⟩
  obtain ⟨_, p', L, y3, y7, rfl, q, hl, hL⟩ := h2'
  exact ⟨p', L, y3, y7, h1, q.mono (by simp), hl, hL⟩
theorem m2_lc (hd : DrawS (cf 13)) {x1 x2 x3 x4 x5 x7 : Option D} {p : P3} {Ps : List (List (List St3))} (hp : PoolP (n + Ps.length) p) (hP : ∀ L ∈ Ps, GoodSts L) (h10 : Ps.length ≤ 10) :
    ∃ (p' : P3) (t : List Pc), ev ⟨2, args, cf, wf, []⟩ e_m2 .read [some (pd p), x1, x2, x3, x4, x5, some (.lst false (Ps.map fun L => .lst true (L.map eSt))), x7, none] =
      .ok (.own (.lst false (t.map eP))) [some (pd p'), x1, x2, x3, x4, x5, some (.lst false (Ps.map fun L => .lst true (L.map eSt))), x7, none] ∧ PoolP n p' ∧ Good t := by
  have fz : fzns (Ps.map fun L => D.lst true (L.map eSt)) = true := (fzns_iff _).mpr fun x m => by
    obtain ⟨L, _, rfl⟩ := List.mem_map.mp m
    simp only [D.fzn, eSt_fz, Bool.and_self]
  generalize hB : (D.lst false (Ps.map fun L => D.lst true (L.map eSt))) = B
  have sm : B.same B = true := same_refl _
  have he : evi ⟨2, args, cf, wf, []⟩ (.e (.var 6)) [some (pd p), x1, x2, x3, x4, x5, some B, x7, none] =
      .ok (Ps.map fun L => D.lst true (L.map eSt), [(6, B)]) [some (pd p), x1, x2, x3, x4, x5, some B, x7, none] := by
    subst hB
    simp [callF, hasSub, frzO, isDct, evd, keyOk, keyOk1, finF, exSs, exS, ev, evs, evo, evc, evi, R.bind, R.then, evVar, gt, fin, val, two, many, Opd.get, only, D.fzn, fzns, dCmp, gets, dBi, dBin, dAug, dNeg, asgS, asgT, asgTs, put, mayAsg, subK, augK, retV, fins, dTru, dLen, owns, opnds, mmR, dMm, Mm.md, callR0, callR, noExc, takes, puts, isTys, isTy, items, seqItems, grdOf, gOk, Ct.lock, clear, back, clearOk, D.fz, fzs, dSl, bound, D.isNon, lcR, dEq, D.plain, plains, D.dep, deps, deq, deqs, dIn, (by decide : 1 ≤ sizeLine), (by decide : 2 ≤ sizeLine), (by decide : 3 ≤ sizeLine), (by decide : 4 ≤ sizeLine), (by decide : 5 ≤ sizeLine), (by decide : 6 ≤ sizeLine), fz]
  let J : List D → Env → Prop := fun rs ρ => ∃ (p' : P3) (y8 : Option D) (Rs : List (List (List St3))), ρ = [some (pd p'), x1, x2, x3, x4, x5, some B, x7, y8] ∧ rs = Rs.map (fun L => D.lst true (L.map eSt)) ∧ PoolP (n + Rs.length) p' ∧ ∀ L ∈ Rs, GoodSts L
  have step : ∀ x rs ρ, J (x :: rs) ρ → ∃ ρ1 ρ2 d ρ3, asgT (Ct.lock ⟨2, args, cf, wf, []⟩ [(6, B)]) (.nm 8) x (clear ρ [8]) = some ρ1 ∧ evc (Ct.lock ⟨2, args, cf, wf, []⟩ [(6, B)]) .no ρ1 = .ok (.own (.bl true)) ρ2 ∧
      ev (Ct.lock ⟨2, args, cf, wf, []⟩ [(6, B)]) (.tup (.cons (.ix (.tup (.cons (.cst (.str "now")) (.cons (.cst (.str "begin")) .nil))) (.call 13 (.cons (.var 0) (.cons (.cst (.int 2)) .nil)))) (.cons (.bi .tuple (.cons (.var 8) .nil)) .nil))) .keep ρ2 = .ok (.own d) ρ3 ∧ gOk [(6, B)] ρ3 = true ∧ (∃ q : Pc, d = eP q ∧ GoodSts q.2) ∧ J rs ρ3 := fun x rs ρ hJ => by
    obtain ⟨p1, y8, Rs, rfl, h2, h3, h4⟩ := hJ
    cases Rs with
    | nil => cases h2
    | cons L Rs =>
      simp only [List.map_cons, List.cons.injEq] at h2
      obtain ⟨rfl, rfl⟩ := h2
      obtain ⟨r, p2, e1, q1, hr⟩ := hd (n + Rs.length) p1 2 h3 (by decide) (by decide)
      obtain ⟨z, ez⟩ : ∃ z : Str, dIx (.tup [.str "now", .str "begin"]) (.int (r : Int)) = some (.str z) := by
        have : r = 0 ∨ r = 1 := by omega
        rcases this with h | h <;> subst h <;> exact ⟨_, rfl⟩
      have fL := eSt_fz L
      refine ⟨[some (pd p1), x1, x2, x3, x4, x5, some B, x7, some (.lst true (L.map eSt))], _, eP (z, L), [some (pd p2), x1, x2, x3, x4, x5, some B, x7, some (.lst true (L.map eSt))], by simp [callF, hasSub, frzO, isDct, evd, keyOk, keyOk1, finF, exSs, exS, ev, evs, evo, evc, evi, R.bind, R.then, evVar, gt, fin, val, two, many, Opd.get, only, D.fzn, fzns, dCmp, gets, dBi, dBin, dAug, dNeg, asgS, asgT, asgTs, put, mayAsg, subK, augK, retV, fins, dTru, dLen, owns, opnds, mmR, dMm, Mm.md, callR0, callR, noExc, takes, puts, isTys, isTy, items, seqItems, grdOf, gOk, Ct.lock, clear, back, clearOk, D.fz, fzs, dSl, bound, D.isNon, lcR, dEq, D.plain, plains, D.dep, deps, deq, deqs, dIn, (by decide : 1 ≤ sizeLine), (by decide : 2 ≤ sizeLine), (by decide : 3 ≤ sizeLine), (by decide : 4 ≤ sizeLine), (by decide : 5 ≤ sizeLine), (by decide : 6 ≤ sizeLine), fL], rfl, ?_, by simp [callF, hasSub, frzO, isDct, evd, keyOk, keyOk1, finF, exSs, exS, ev, evs, evo, evc, evi, R.bind, R.then, evVar, gt, fin, val, two, many, Opd.get, only, D.fzn, fzns, dCmp, gets, dBi, dBin, dAug, dNeg, asgS, asgT, asgTs, put, mayAsg, subK, augK, retV, fins, dTru, dLen, owns, opnds, mmR, dMm, Mm.md, callR0, callR, noExc, takes, puts, isTys, isTy, items, seqItems, grdOf, gOk, Ct.lock, clear, back, clearOk, D.fz, fzs, dSl, bound, D.isNon, lcR, dEq, D.plain, plains, D.dep, deps, deq, deqs, dIn, (by decide : 1 ≤ sizeLine), (by decide : 2 ≤ sizeLine), (by decide : 3 ≤ sizeLine), (by decide : 4 ≤ sizeLine), (by decide : 5 ≤ sizeLine), (by decide : 6 ≤ sizeLine), sm], ⟨(z, L), rfl, h4 L List.mem_cons_self⟩, p2, _, Rs, rfl, rfl, q1, fun L m => h4 L (List.mem_cons_of_mem _ m)⟩
      simp [callF, hasSub, frzO, isDct, evd, keyOk, keyOk1, finF, exSs, exS, ev, evs, evo, evc, evi, R.bind, R.then, evVar, gt, fin, val, two, many, Opd.get, only, D.fzn, fzns, dCmp, gets, dBi, dBin, dAug, dNeg, asgS, asgT, asgTs, put, mayAsg, subK, augK, retV, fins, dTru, dLen, owns, opnds, mmR, dMm, Mm.md, callR0, callR, noExc, takes, puts, isTys, isTy, items, seqItems, grdOf, gOk, Ct.lock, clear, back, clearOk, D.fz, fzs, dSl, bound, D.isNon, lcR, dEq, D.plain, plains, D.dep, deps, deq, deqs, dIn, (by decide : 1 ≤ sizeLine), (by decide : 2 ≤ sizeLine), (by decide : 3 ≤ sizeLine), (by decide : 4 ≤ sizeLine), (by decide : 5 ≤ sizeLine), (by decide : 6 ≤ sizeLine), e1, ez, fL, eP]
  obtain ⟨ds, ρ', h1, ⟨p', y8, Rs, rfl, h2, h3, _⟩, h4⟩ := lcL_all (gs := [(6, B)]) J (fun _ d => ∃ q : Pc, d = eP q ∧ GoodSts q.2) step (Ps.map fun L => D.lst true (L.map eSt)) [some (pd p), x1, x2, x3, x4, x5, some B, x7, none] ⟨p, none, Ps, rfl, rfl, hp, hP⟩
  obtain ⟨t, ht, hg⟩ := all_dec (P := fun q : Pc => GoodSts q.2) (e := eP) (Q := fun d => ∃ q : Pc, d = eP q ∧ GoodSts q.2) (fun d h => h) ds (All2.right h4)
  subst ht
  refine ⟨p', t, lc_eq (by intro h; cases h) he rfl (by simp [callF, hasSub, frzO, isDct, evd, keyOk, keyOk1, finF, exSs, exS, ev, evs, evo, evc, evi, R.bind, R.then, evVar, gt, fin, val, two, many, Opd.get, only, D.fzn, fzns, dCmp, gets, dBi, dBin, dAug, dNeg, asgS, asgT, asgTs, put, mayAsg, subK, augK, retV, fins, dTru, dLen, owns, opnds, mmR, dMm, Mm.md, callR0, callR, noExc, takes, puts, isTys, isTy, items, seqItems, grdOf, gOk, Ct.lock, clear, back, clearOk, D.fz, fzs, dSl, bound, D.isNon, lcR, dEq, D.plain, plains, D.dep, deps, deq, deqs, dIn, (by decide : 1 ≤ sizeLine), (by decide : 2 ≤ sizeLine), (by decide : 3 ≤ sizeLine), (by decide : 4 ≤ sizeLine), (by decide : 5 ≤ sizeLine), (by decide : 6 ≤ sizeLine), sm]) h1, h3.mono (by omega), ⟨?_, hg⟩⟩
  have := h4.len
  simp only [List.length_map] at this
  omega
end
def MixedS (cf : List D → FR) : Prop := ∀ (n : Nat) (p : P3) (sl : List D), PoolP (n + 30) p → 2 ≤ sl.length → (∀ x ∈ sl, Slot x) → ∃ t p', cf [pd p, .lst false sl] = .ok (eD t) [pd p', .lst false sl] ∧ PoolP n p' ∧ Good t
theorem eD_map (t : List Pc) : D.tup (t.map eP) = eD t := rfl
theorem mixed_s {wf k : Nat} (hd : DrawS (callF T wf k 13)) : MixedS (callF T wf (k + 1) 24) := fun n p sl hp h2 hs => by
  have hT : T[24]? = some ⟨2, 9, b_law_mixed⟩ := rfl
  rw [callF, hT]
  generalize callF T wf k = cf at *
  obtain ⟨p1, L, y3, y7, e1, q1, hl, hL⟩ := m1 (args := [pd p, .lst false sl]) (wf := wf) (n := n + 20) hd (hp.mono (by omega)) h2 hs
  obtain ⟨r, p2, e2, q2, hr⟩ := hd (n + 19) p1 2 q1 (by decide) (by decide)
  obtain ⟨r4, p3, e3, q3, hr4⟩ := hd (n + 18) p2 4 q2 (by decide) (by decide)
  obtain ⟨r6, p4, e4, q4, hr6⟩ := hd (n + 17) p3 6 q3 (by decide) (by decide)
  obtain ⟨u, v, es⟩ := slot_at hs (by omega : 0 < sl.length)
  obtain ⟨kd, kk, ek⟩ : ∃ kd : Str, Knd kd ∧ dIx (.tup [.str "read", .str "hold"]) (.int (r : Int)) = some (.str kd) := by
    have : r = 0 ∨ r = 1 := by omega
    rcases this with h | h <;> subst h
    · exact ⟨_, .inl rfl, rfl⟩
    · exact ⟨_, .inr (.inr (.inl rfl)), rfl⟩
  have es : dIx (.lst false sl) (.int 0) = some (.tup [.str u, .str v]) := es
  have zs := slot_fz hs
  obtain ⟨L5, hL5⟩ : ∃ L5 : List (List St3), L5 = (L.take r4 ++ [[(Str.ofString "write", u, v), (kd, u, v)]] ++ L.drop r4) ++ [[(kd, u, v)]] := ⟨_, rfl⟩
  have g5 : ∀ st ∈ L5, SmS st := fun st m => by
    rw [hL5] at m
    simp only [List.mem_append, List.mem_singleton] at m
    rcases m with ((m | rfl) | m) | rfl
    · exact hL st (List.mem_of_mem_take m)
    · exact ⟨by simp, by
        intro x m
        simp only [List.mem_cons, List.not_mem_nil, or_false] at m
        rcases m with rfl | rfl
        · exact .inr (.inl rfl)
        · exact kk⟩
    · exact hL st (List.mem_of_mem_drop m)
    · exact ⟨by simp, by simpa using kk⟩
  have l5 : L5.length = 5 := by
    rw [hL5]
    simp only [List.length_append, List.length_take, List.length_drop, List.length_cons, List.length_nil, hl]
    omega
  obtain ⟨Ps, hPs⟩ : ∃ Ps : List (List (List St3)), Ps = if 0 < r6 ∧ r6 < 5 then [L5.take r6, L5.drop r6] else [L5] := ⟨_, rfl⟩
  have hP : ∀ M ∈ Ps, GoodSts M := fun M m => by
    have : (∀ st ∈ M, st ∈ L5) ∧ M.length ≤ 5 := by
      rw [hPs] at m
      split at m
      · simp only [List.mem_cons, List.not_mem_nil, or_false] at m
        rcases m with rfl | rfl
        · exact ⟨fun st m => List.mem_of_mem_take m, by rw [List.length_take]; omega⟩
        · exact ⟨fun st m => List.mem_of_mem_drop m, by rw [List.length_drop]; omega⟩
      · simp only [List.mem_cons, List.not_mem_nil, or_false] at m
        subst m
        exact ⟨fun _ m => m, by omega⟩
    exact ⟨by omega, fun st m => g5 st (this.1 st m)⟩
  have lP : Ps.length ≤ 2 := by rw [hPs]; split <;> simp
  obtain ⟨x2, hx2⟩ : ∃ x2, x2 = if 0 < r6 ∧ r6 < 5 then some (D.lst false (L5.map eSt)) else some (D.lst true (L5.map eSt)) := ⟨_, rfl⟩
  obtain ⟨p5, t, e5, q5, hg⟩ := m2_lc (args := [pd p, .lst false sl]) (wf := wf) (n := n) (x1 := some (.lst false sl)) (x2 := x2) (x3 := y3) (x4 := some (eS (kd, u, v))) (x5 := some (.int (r6 : Int))) (x7 := y7) hd (q4.mono (by omega) : PoolP (n + Ps.length) p4) hP (by omega)
  refine ⟨t, p5, ?_, q5, hg⟩
  have z1 : fzns (L.map eSt) = true := eSt_fz _
  have zt := eP_fz t
  have ll : (L.map eSt).length = 3 := by rw [List.length_map, hl]
  have e6 : L5.map eSt = ((L.map eSt).take r4 ++ [D.tup [D.tup [.str (Str.ofString "write"), .str u, .str v], D.tup [.str kd, .str u, .str v]]] ++ (L.map eSt).drop r4) ++ [D.tup [D.tup [.str kd, .str u, .str v]]] := by
    rw [hL5]
    simp only [List.map_append, List.map_take, List.map_drop, List.map_cons, List.map_nil, eSt, eS]
  have z5 : fzns (L5.map eSt) = true := eSt_fz _
  have w5 : (L5.map eSt).length = 5 := by rw [List.length_map, l5]
  have eP5 : (Ps.map fun L => D.lst true (L.map eSt)) = if 0 < r6 ∧ r6 < 5 then [.lst true ((L5.map eSt).take r6), .lst true ((L5.map eSt).drop r6)] else [.lst true (L5.map eSt)] := by
    rw [hPs]
    split <;> simp [List.map_take, List.map_drop]
  have l12 : 1 + 2 ≤ sizeLine := by decide
  have l2 : 2 ≤ sizeLine := by decide
  have l1 : 1 ≤ sizeLine := by decide
  have l3 : 3 < sizeLine := by decide
  generalize hC : (⟨2, [pd p, .lst false sl], cf, wf, []⟩ : Ct) = C at *
  have hcf : C.cf = cf := by rw [← hC]
  have hmay : ∀ i, 2 ≤ i → mayAsg C i = true := fun i h => by
    rw [← hC]
    simp only [mayAsg, List.contains_nil, Bool.not_false, Bool.true_and]
    rw [if_neg (by omega)]
  have sA : exS C c_A [some (pd p1), some (.lst false sl), some (.lst false (L.map eSt)), y3, none, none, none, y7, none] = .nx [some (pd p2), some (.lst false sl), some (.lst false (L.map eSt)), y3, some (.tup [.str kd, .str u, .str v]), none, none, y7, none] := by
    generalize L.map eSt = B at *
    subst hC
    simp [callF, hasSub, frzO, isDct, evd, keyOk, keyOk1, finF, exSs, exS, ev, evs, evo, evc, evi, R.bind, R.then, evVar, gt, fin, val, two, many, Opd.get, only, D.fzn, fzns, dCmp, gets, dBi, dBin, dAug, dNeg, asgS, asgT, asgTs, put, mayAsg, subK, augK, retV, fins, dTru, dLen, owns, opnds, mmR, dMm, Mm.md, callR0, callR, noExc, takes, puts, isTys, isTy, items, seqItems, grdOf, gOk, Ct.lock, clear, back, clearOk, D.fz, fzs, dSl, bound, D.isNon, lcR, dEq, D.plain, plains, D.dep, deps, deq, deqs, dIn, (by decide : 1 ≤ sizeLine), (by decide : 2 ≤ sizeLine), (by decide : 3 ≤ sizeLine), (by decide : 4 ≤ sizeLine), (by decide : 5 ≤ sizeLine), (by decide : 6 ≤ sizeLine), c_A, e2, ek, es, l12]
  have sB : exS C c_B [some (pd p2), some (.lst false sl), some (.lst false (L.map eSt)), y3, some (.tup [.str kd, .str u, .str v]), none, none, y7, none] = .nx [some (pd p3), some (.lst false sl), some (.lst false ((L.map eSt).take r4 ++ [D.tup [D.tup [.str (Str.ofString "write"), .str u, .str v], D.tup [.str kd, .str u, .str v]]] ++ (L.map eSt).drop r4)), y3, some (.tup [.str kd, .str u, .str v]), none, none, y7, none] := by
    have b63 : (r4 : Int) < 9223372036854775808 := by omega
    generalize L.map eSt = B at *
    subst hC
    simp [callF, hasSub, frzO, isDct, evd, keyOk, keyOk1, finF, exSs, exS, ev, evs, evo, evc, evi, R.bind, R.then, evVar, gt, fin, val, two, many, Opd.get, only, D.fzn, fzns, dCmp, gets, dBi, dBin, dAug, dNeg, asgS, asgT, asgTs, put, mayAsg, subK, augK, retV, fins, dTru, dLen, owns, opnds, mmR, dMm, Mm.md, callR0, callR, noExc, takes, puts, isTys, isTy, items, seqItems, grdOf, gOk, Ct.lock, clear, back, clearOk, D.fz, fzs, dSl, bound, D.isNon, lcR, dEq, D.plain, plains, D.dep, deps, deq, deqs, dIn, (by decide : 1 ≤ sizeLine), (by decide : 2 ≤ sizeLine), (by decide : 3 ≤ sizeLine), (by decide : 4 ≤ sizeLine), (by decide : 5 ≤ sizeLine), (by decide : 6 ≤ sizeLine), c_B, e3, es, l12, l2, z1, ll, l3, b63]
  have sC : exS C c_C [some (pd p3), some (.lst false sl), some (.lst false ((L.map eSt).take r4 ++ [D.tup [D.tup [.str (Str.ofString "write"), .str u, .str v], D.tup [.str kd, .str u, .str v]]] ++ (L.map eSt).drop r4)), y3, some (.tup [.str kd, .str u, .str v]), none, none, y7, none] = .nx [some (pd p3), some (.lst false sl), some (.lst false (L5.map eSt)), y3, some (.tup [.str kd, .str u, .str v]), none, none, y7, none] := by
    rw [e6]
    have ln : ((L.map eSt).take r4 ++ [D.tup [D.tup [.str (Str.ofString "write"), .str u, .str v], D.tup [.str kd, .str u, .str v]]] ++ (L.map eSt).drop r4).length < sizeLine := by
      refine Nat.lt_of_le_of_lt (?_ : _ ≤ 1000) (by decide)
      simp only [List.length_append, List.length_take, List.length_drop, List.length_cons, List.length_nil, ll]
      omega
    generalize (L.map eSt).take r4 ++ [D.tup [D.tup [.str (Str.ofString "write"), .str u, .str v], D.tup [.str kd, .str u, .str v]]] ++ (L.map eSt).drop r4 = B at *
    subst hC
    simp [callF, hasSub, frzO, isDct, evd, keyOk, keyOk1, finF, exSs, exS, ev, evs, evo, evc, evi, R.bind, R.then, evVar, gt, fin, val, two, many, Opd.get, only, D.fzn, fzns, dCmp, gets, dBi, dBin, dAug, dNeg, asgS, asgT, asgTs, put, mayAsg, subK, augK, retV, fins, dTru, dLen, owns, opnds, mmR, dMm, Mm.md, callR0, callR, noExc, takes, puts, isTys, isTy, items, seqItems, grdOf, gOk, Ct.lock, clear, back, clearOk, D.fz, fzs, dSl, bound, D.isNon, lcR, dEq, D.plain, plains, D.dep, deps, deq, deqs, dIn, (by decide : 1 ≤ sizeLine), (by decide : 2 ≤ sizeLine), (by decide : 3 ≤ sizeLine), (by decide : 4 ≤ sizeLine), (by decide : 5 ≤ sizeLine), (by decide : 6 ≤ sizeLine), c_C, l1, ln]
  have sD : exS C c_D [some (pd p3), some (.lst false sl), some (.lst false (L5.map eSt)), y3, some (.tup [.str kd, .str u, .str v]), none, none, y7, none] = .nx [some (pd p4), some (.lst false sl), some (.lst false (L5.map eSt)), y3, some (.tup [.str kd, .str u, .str v]), some (.int (r6 : Int)), none, y7, none] := by
    generalize L5.map eSt = B at *
    subst hC
    simp [callF, hasSub, frzO, isDct, evd, keyOk, keyOk1, finF, exSs, exS, ev, evs, evo, evc, evi, R.bind, R.then, evVar, gt, fin, val, two, many, Opd.get, only, D.fzn, fzns, dCmp, gets, dBi, dBin, dAug, dNeg, asgS, asgT, asgTs, put, mayAsg, subK, augK, retV, fins, dTru, dLen, owns, opnds, mmR, dMm, Mm.md, callR0, callR, noExc, takes, puts, isTys, isTy, items, seqItems, grdOf, gOk, Ct.lock, clear, back, clearOk, D.fz, fzs, dSl, bound, D.isNon, lcR, dEq, D.plain, plains, D.dep, deps, deq, deqs, dIn, (by decide : 1 ≤ sizeLine), (by decide : 2 ≤ sizeLine), (by decide : 3 ≤ sizeLine), (by decide : 4 ≤ sizeLine), (by decide : 5 ≤ sizeLine), (by decide : 6 ≤ sizeLine), c_D, e4]
  have sE : exS C c_E [some (pd p4), some (.lst false sl), some (.lst false (L5.map eSt)), y3, some (.tup [.str kd, .str u, .str v]), some (.int (r6 : Int)), none, y7, none] = .nx [some (pd p4), some (.lst false sl), x2, y3, some (.tup [.str kd, .str u, .str v]), some (.int (r6 : Int)), some (.lst false (Ps.map fun L => D.lst true (L.map eSt))), y7, none] := by
    rw [eP5, hx2]
    have f5 := fzs_id _ z5
    have f6 : fzs ((L5.map eSt).take r6) = (L5.map eSt).take r6 := fzs_id _ (by rw [← List.map_take]; exact eSt_fz _)
    have f7 : fzs ((L5.map eSt).drop r6) = (L5.map eSt).drop r6 := fzs_id _ (by rw [← List.map_drop]; exact eSt_fz _)
    have cd : cut (L5.map eSt) (some (r6 : Int)) none = (L5.map eSt).drop r6 := by
      cases r6 with
      | zero => exact cut_take0 _
      | succ r => exact cut_drop _ r
    generalize L5.map eSt = B at *
    subst hC
    by_cases h : 0 < r6 ∧ r6 < 5
    · have h0 : (0 : Int) < r6 := by omega
      have h1 : (r6 : Int) < 5 := by omega
      simp [callF, hasSub, frzO, isDct, evd, keyOk, keyOk1, finF, exSs, exS, ev, evs, evo, evc, evi, R.bind, R.then, evVar, gt, fin, val, two, many, Opd.get, only, D.fzn, fzns, dCmp, gets, dBi, dBin, dAug, dNeg, asgS, asgT, asgTs, put, mayAsg, subK, augK, retV, fins, dTru, dLen, owns, opnds, mmR, dMm, Mm.md, callR0, callR, noExc, takes, puts, isTys, isTy, items, seqItems, grdOf, gOk, Ct.lock, clear, back, clearOk, D.fz, fzs, dSl, bound, D.isNon, lcR, dEq, D.plain, plains, D.dep, deps, deq, deqs, dIn, (by decide : 1 ≤ sizeLine), (by decide : 2 ≤ sizeLine), (by decide : 3 ≤ sizeLine), (by decide : 4 ≤ sizeLine), (by decide : 5 ≤ sizeLine), (by decide : 6 ≤ sizeLine), c_E, h, h0, h1, cut_take, cd, z5, f6, f7, l2]
    · have hr : r6 = 0 ∨ r6 = 5 := by omega
      rcases hr with rfl | rfl
      · simp [callF, hasSub, frzO, isDct, evd, keyOk, keyOk1, finF, exSs, exS, ev, evs, evo, evc, evi, R.bind, R.then, evVar, gt, fin, val, two, many, Opd.get, only, D.fzn, fzns, dCmp, gets, dBi, dBin, dAug, dNeg, asgS, asgT, asgTs, put, mayAsg, subK, augK, retV, fins, dTru, dLen, owns, opnds, mmR, dMm, Mm.md, callR0, callR, noExc, takes, puts, isTys, isTy, items, seqItems, grdOf, gOk, Ct.lock, clear, back, clearOk, D.fz, fzs, dSl, bound, D.isNon, lcR, dEq, D.plain, plains, D.dep, deps, deq, deqs, dIn, (by decide : 1 ≤ sizeLine), (by decide : 2 ≤ sizeLine), (by decide : 3 ≤ sizeLine), (by decide : 4 ≤ sizeLine), (by decide : 5 ≤ sizeLine), (by decide : 6 ≤ sizeLine), c_E, z5, f5, l1]
      · simp [callF, hasSub, frzO, isDct, evd, keyOk, keyOk1, finF, exSs, exS, ev, evs, evo, evc, evi, R.bind, R.then, evVar, gt, fin, val, two, many, Opd.get, only, D.fzn, fzns, dCmp, gets, dBi, dBin, dAug, dNeg, asgS, asgT, asgTs, put, mayAsg, subK, augK, retV, fins, dTru, dLen, owns, opnds, mmR, dMm, Mm.md, callR0, callR, noExc, takes, puts, isTys, isTy, items, seqItems, grdOf, gOk, Ct.lock, clear, back, clearOk, D.fz, fzs, dSl, bound, D.isNon, lcR, dEq, D.plain, plains, D.dep, deps, deq, deqs, dIn, (by decide : 1 ≤ sizeLine), (by decide : 2 ≤ sizeLine), (by decide : 3 ≤ sizeLine), (by decide : 4 ≤ sizeLine), (by decide : 5 ≤ sizeLine), (by decide : 6 ≤ sizeLine), c_E, z5, f5, l1]
  have e5' : ev C e_m2 .read [some (pd p4), some (.lst false sl), x2, y3, some (.tup [.str kd, .str u, .str v]), some (.int (r6 : Int)), some (.lst false (Ps.map fun L => D.lst true (L.map eSt))), y7, none] = .ok (.own (.lst false (t.map eP))) [some (pd p5), some (.lst false sl), x2, y3, some (.tup [.str kd, .str u, .str v]), some (.int (r6 : Int)), some (.lst false (Ps.map fun L => D.lst true (L.map eSt))), y7, none] := e5
  generalize (Ps.map fun L => D.lst true (L.map eSt)) = PP at *
  have main : exSs C b_m2 [some (pd p1), some (.lst false sl), some (.lst false (L.map eSt)), y3, none, none, none, y7, none] = .rt (eD t) [some (pd p5), some (.lst false sl), x2, y3, some (.tup [.str kd, .str u, .str v]), some (.int (r6 : Int)), some (.lst false PP), y7, none] := by
    rw [b_m2_eq]
    simp only [exSs, sA, sB, sC, sD, sE]
    rw [← eD_map]
    generalize t.map eP = TT at *
    simp [callF, hasSub, frzO, isDct, evd, keyOk, keyOk1, finF, exSs, exS, ev, evs, evo, evc, evi, R.bind, R.then, evVar, gt, fin, val, two, many, Opd.get, only, D.fzn, fzns, dCmp, gets, dBi, dBin, dAug, dNeg, asgS, asgT, asgTs, put, mayAsg, subK, augK, retV, fins, dTru, dLen, owns, opnds, mmR, dMm, Mm.md, callR0, callR, noExc, takes, puts, isTys, isTy, items, seqItems, grdOf, gOk, Ct.lock, clear, back, clearOk, D.fz, fzs, dSl, bound, D.isNon, lcR, dEq, D.plain, plains, D.dep, deps, deq, deqs, dIn, (by decide : 1 ≤ sizeLine), (by decide : 2 ≤ sizeLine), (by decide : 3 ≤ sizeLine), (by decide : 4 ≤ sizeLine), (by decide : 5 ≤ sizeLine), (by decide : 6 ≤ sizeLine), e5', zt]
  have e1' : exS C s_m1 [some (pd p), some (.lst false sl), some (.lst false []), none, none, none, none, none, none] = .nx [some (pd p1), some (.lst false sl), some (.lst false (L.map eSt)), y3, none, none, none, y7, none] := e1
  generalize L.map eSt = LL at *
  have top : exSs C b_law_mixed [some (pd p), some (.lst false sl), none, none, none, none, none, none, none] = .rt (eD t) [some (pd p5), some (.lst false sl), x2, y3, some (.tup [.str kd, .str u, .str v]), some (.int (r6 : Int)), some (.lst false PP), y7, none] := by
    have a : exS C (.asg (.nm 2) (.lst .nil)) [some (pd p), some (.lst false sl), none, none, none, none, none, none, none] = .nx [some (pd p), some (.lst false sl), some (.lst false []), none, none, none, none, none, none] := by
      subst hC
      simp [callF, hasSub, frzO, isDct, evd, keyOk, keyOk1, finF, exSs, exS, ev, evs, evo, evc, evi, R.bind, R.then, evVar, gt, fin, val, two, many, Opd.get, only, D.fzn, fzns, dCmp, gets, dBi, dBin, dAug, dNeg, asgS, asgT, asgTs, put, mayAsg, subK, augK, retV, fins, dTru, dLen, owns, opnds, mmR, dMm, Mm.md, callR0, callR, noExc, takes, puts, isTys, isTy, items, seqItems, grdOf, gOk, Ct.lock, clear, back, clearOk, D.fz, fzs, dSl, bound, D.isNon, lcR, dEq, D.plain, plains, D.dep, deps, deq, deqs, dIn, (by decide : 1 ≤ sizeLine), (by decide : 2 ≤ sizeLine), (by decide : 3 ≤ sizeLine), (by decide : 4 ≤ sizeLine), (by decide : 5 ≤ sizeLine), (by decide : 6 ≤ sizeLine), (by decide : 0 ≤ sizeLine)]
    rw [b_mixed_eq]
    simp only [exSs, a, e1', main]
  have fp : (pd p).fzn = false := rfl
  have fs : (D.lst false sl).fzn = false := rfl
  subst hC
  show finF [pd p, .lst false sl] (exSs _ b_law_mixed [some (pd p), some (.lst false sl), none, none, none, none, none, none, none]) = _
  rw [top]
  rfl
end Aw.L05

set_option Elab.async false
set_option linter.all false
set_option maxRecDepth 100000
set_option maxHeartbeats 4000000
/-! K05L: the law k05. -/
namespace Aw.L05
open PySem K05
theorem prs_len (as bs : List Ent) (Q : Ent → Ent → Bool) : (prs as bs Q).length ≤ bs.length * as.length := by
  unfold prs
  induction as with
  | nil => simp
  | cons a as ih =>
    rw [List.flatMap_cons, List.length_append, List.length_map, List.length_cons, Nat.mul_add, Nat.mul_one]
    have := List.length_filter_le (Q a) bs
    omega
theorem prs_tree {t u : List Pc} (ht : Good t) (hu : Good u) (Q : Ent → Ent → Bool) : Tree 3 (.tup (prs (opP t) (opP u) Q)) := by
  refine .inr ⟨_, rfl, ?_, fun x m => ?_⟩
  · have h1 := prs_len (opP t) (opP u) Q
    have h2 := Nat.mul_le_mul (opP_len hu) (opP_len ht)
    omega
  · obtain ⟨a, b, rfl⟩ := prs_mem m
    have pl : ∀ p : Pl, Tree 1 (ePl p) := fun p => .inr ⟨_, rfl, by simp, fun x m => by
      simp only [List.mem_cons, List.not_mem_nil, or_false] at m
      rcases m with rfl | rfl | rfl <;> exact ⟨_, rfl⟩⟩
    refine .inr ⟨_, rfl, by simp, fun x m => ?_⟩
    simp only [List.mem_cons, List.not_mem_nil, or_false] at m
    rcases m with rfl | rfl <;> exact pl _
def eDs (ts : List (List Pc)) : D := .lst false (ts.map eD)
theorem eD_fz (ts : List (List Pc)) : fzns (ts.map eD) = true := (fzns_iff _).mpr fun x m => by obtain ⟨s, _, rfl⟩ := List.mem_map.mp m; exact eD_fz1 s
def b_l5 : Ss := (.cons (.ex (.mm .append 3 (.cons (.call 19 (.cons (.var 1) (.cons (.var 4) (.cons (.cst (.int 3)) (.cons (.cst (.int 3)) (.cons (.cst (.int 3)) .nil)))))) .nil))) .nil)
def s_l5 : S := .forr (.nm 5) (.rng (.cons (.cst (.int 3)) .nil)) b_l5
def b_l7 : Ss := (.cons (.asg (.nm 13) (.call 5 (.cons (.var 6) (.cons (.var 10) .nil)))) (.cons (.iff (.bop false (.not (.isi (.var 13) [.bool])) (.cmp .ne (.var 13) (.var 12))) (.cons (.ret (.cst (.bl false))) .nil) .nil) .nil))
def s_l7 : S := .forr (.tup [(.nm 10), (.nm 11), (.nm 12)]) (.e (.call 21 (.cons (.var 6) .nil))) b_l7
def s_l6 : S := .forr (.nm 6) (.e (.var 3)) (.cons s_l7 .nil)
def it8 : It := .e (.tup (.cons (.tup (.cons (.cst (.int 0)) (.cons (.cst (.int 1)) .nil))) (.cons (.tup (.cons (.cst (.int 0)) (.cons (.cst (.int 2)) .nil))) (.cons (.tup (.cons (.cst (.int 2)) (.cons (.cst (.int 3)) .nil))) (.cons (.tup (.cons (.cst (.int 4)) (.cons (.cst (.int 5)) .nil))) (.cons (.tup (.cons (.cst (.int 5)) (.cons (.cst (.int 1)) .nil))) (.cons (.tup (.cons (.cst (.int 3)) (.cons (.cst (.int 3)) .nil))) .nil)))))))
def b_l8 : Ss := (.cons (.iff (.not (.call 20 (.cons (.call 10 (.cons (.ix (.var 3) (.var 8)) (.cons (.ix (.var 3) (.var 9)) .nil))) (.cons (.call 23 (.cons (.ix (.var 3) (.var 8)) (.cons (.ix (.var 3) (.var 9)) (.cons (.cst (.bl true)) .nil)))) .nil)))) (.cons (.ret (.cst (.bl false))) .nil) .nil) (.cons (.iff (.not (.call 20 (.cons (.call 11 (.cons (.ix (.var 3) (.var 8)) (.cons (.ix (.var 3) (.var 9)) .nil))) (.cons (.call 23 (.cons (.ix (.var 3) (.var 8)) (.cons (.ix (.var 3) (.var 9)) (.cons (.cst (.bl false)) .nil)))) .nil)))) (.cons (.ret (.cst (.bl false))) .nil) .nil) .nil))
def s_l8 : S := .forr (.tup [(.nm 8), (.nm 9)]) it8 b_l8
def t_l : Ss := (.cons (.asg (.nm 7) (.call 10 (.cons (.ix (.var 3) (.cst (.int 1))) (.cons (.ix (.var 3) (.cst (.int 0))) .nil)))) (.cons (.ret (.call 20 (.cons (.var 7) (.cons (.call 23 (.cons (.ix (.var 3) (.cst (.int 1))) (.cons (.ix (.var 3) (.cst (.int 0))) (.cons (.cst (.bl true)) .nil)))) .nil)))) .nil))
def a_1 : S := .asg (.nm 1) (.call 12 (.cons (.var 0) .nil))
def a_2 : S := .asg (.nm 2) (.call 17 (.cons (.var 1) (.cons (.cst (.int 4)) .nil)))
def a_3 : S := .asg (.nm 3) (.lst (.cons (.call 24 (.cons (.var 1) (.cons (.var 2) .nil))) (.cons (.call 24 (.cons (.var 1) (.cons (.var 2) .nil))) .nil)))
def a_4 : S := .asg (.nm 4) (.sl (.var 2) .no (.yes (.bin .add (.cst (.int 1)) (.call 13 (.cons (.var 1) (.cons (.cst (.int 4)) .nil))))))
def a_6 : S := .ex (.mm .append 3 (.cons (.call 19 (.cons (.var 1) (.cons (.var 2) (.cons (.cst (.int 1)) (.cons (.cst (.int 8)) (.cons (.cst (.int 4)) .nil)))))) .nil))
theorem b_law_eq : b_law = .cons a_1 (.cons a_2 (.cons a_3 (.cons a_4 (.cons s_l5 (.cons a_6 (.cons s_l6 (.cons s_l8 t_l))))))) := rfl
section
variable {args : List D} {cf : Nat → List D → FR} {wf n : Nat}
theorem l5 (hd : DealS (cf 19)) {sc : D} {sl sm : List D} {ts : List (List Pc)} {p : P3} (hp : PoolP (n + 15000) p) (h0 : 0 < sm.length) (hl : sm.length ≤ 1000) (hs : ∀ x ∈ sm, Slot x) (hts : ∀ t ∈ ts, Good t) (hl2 : ts.length = 2) :
    ∃ (p' : P3) (us : List (List Pc)) (y5 : Option D), exS ⟨1, args, cf, wf, []⟩ s_l5 [some sc, some (pd p), some (.lst false sl), some (eDs ts), some (.lst false sm), none, none, none, none, none, none, none, none, none] =
      .nx [some sc, some (pd p'), some (.lst false sl), some (eDs us), some (.lst false sm), y5, none, none, none, none, none, none, none, none] ∧ PoolP n p' ∧ us.length = 5 ∧ ∀ t ∈ us, Good t := by
  have he : evi ⟨1, args, cf, wf, []⟩ (.rng (.cons (.cst (.int 3)) .nil)) [some sc, some (pd p), some (.lst false sl), some (eDs ts), some (.lst false sm), none, none, none, none, none, none, none, none, none] =
      .ok (encI (fun k (_ : Unit) => D.int (k : Int)) 0 [(), (), ()], []) [some sc, some (pd p), some (.lst false sl), some (eDs ts), some (.lst false sm), none, none, none, none, none, none, none, none, none] := by
    rw [← enc_rng]
    simp [callF, hasSub, frzO, isDct, evd, keyOk, keyOk1, finF, exSs, exS, ev, evs, evo, evc, evi, R.bind, R.then, evVar, gt, fin, val, two, many, Opd.get, dIx, L2.atI, L2.ixN, only, D.fzn, fzns, dCmp, gets, dBi, dBin, dAug, dNeg, asgS, asgT, asgTs, put, mayAsg, subK, augK, retV, fins, dTru, dLen, owns, opnds, mmR, dMm, Mm.md, callR0, callR, noExc, takes, puts, isTys, isTy, items, seqItems, grdOf, gOk, Ct.lock, clear, back, clearOk, D.fz, fzs, dSl, bound, D.isNon, lcR, dEq, D.plain, plains, D.dep, deps, deq, deqs, dIn, (by decide : 1 ≤ sizeLine), (by decide : 2 ≤ sizeLine), (by decide : 3 ≤ sizeLine), (by decide : 4 ≤ sizeLine), (by decide : 5 ≤ sizeLine), (by decide : 6 ≤ sizeLine), show dRng [.int 3] = some (rngL 0 3) from rng1 (n := 3) (by decide)]
  obtain ⟨ρ', h1, h2⟩ := for_ix (C := ⟨1, args, cf, wf, []⟩) (t := .nm 5) (b := b_l5) [(), (), ()] (fun (_ : Unit) _ _ => ())
    (fun i _ ρ => i ≤ 3 ∧ ∃ (p' : P3) (us : List (List Pc)) (y5 : Option D), ρ = [some sc, some (pd p'), some (.lst false sl), some (eDs us), some (.lst false sm), y5, none, none, none, none, none, none, none, none] ∧ PoolP (n + 5000 * (3 - i)) p' ∧ us.length = 2 + i ∧ ∀ t ∈ us, Good t) () he rfl ⟨by omega, p, ts, _, rfl, hp, hl2, hts⟩
    fun i _ _ ρ hi ⟨_, p1, us, y5, e, q, hu, hg⟩ => by
      subst e
      have hil : i < 3 := (List.getElem?_eq_some_iff.mp hi).1
      obtain ⟨d, p2, e1, q1, hd'⟩ := hd (n + 5000 * (3 - (i + 1))) p1 sm 3 3 3 (q.mono (by omega)) h0 hl hs (by decide) (by decide) (by decide) (by decide) (by decide) (by decide)
      obtain ⟨t, rfl, goodt⟩ := deal_dec d hd'
      have zs := slot_fz hs
      have lL : (us.map eD).length < sizeLine := Nat.lt_of_le_of_lt (by rw [List.length_map]; omega : _ ≤ 1000) (by decide)
      have ft := eD_fz1 t
      have e1' : cf 19 [pd p1, .lst false sm, .int 3, .int 3, .int 3] = .ok (eD t) [pd p2, .lst false sm, .int 3, .int 3, .int 3] := e1
      refine ⟨[some sc, some (pd p1), some (.lst false sl), some (eDs us), some (.lst false sm), some (.int (i : Int)), none, none, none, none, none, none, none, none], [some sc, some (pd p2), some (.lst false sl), some (eDs (us ++ [t])), some (.lst false sm), some (.int (i : Int)), none, none, none, none, none, none, none, none], by simp [callF, hasSub, frzO, isDct, evd, keyOk, keyOk1, finF, exSs, exS, ev, evs, evo, evc, evi, R.bind, R.then, evVar, gt, fin, val, two, many, Opd.get, dIx, L2.atI, L2.ixN, only, D.fzn, fzns, dCmp, gets, dBi, dBin, dAug, dNeg, asgS, asgT, asgTs, put, mayAsg, subK, augK, retV, fins, dTru, dLen, owns, opnds, mmR, dMm, Mm.md, callR0, callR, noExc, takes, puts, isTys, isTy, items, seqItems, grdOf, gOk, Ct.lock, clear, back, clearOk, D.fz, fzs, dSl, bound, D.isNon, lcR, dEq, D.plain, plains, D.dep, deps, deq, deqs, dIn, (by decide : 1 ≤ sizeLine), (by decide : 2 ≤ sizeLine), (by decide : 3 ≤ sizeLine), (by decide : 4 ≤ sizeLine), (by decide : 5 ≤ sizeLine), (by decide : 6 ≤ sizeLine)], .inl ?_, rfl, by omega, p2, us ++ [t], _, rfl, q1, by simp [hu]; omega, fun x m => ?_⟩
      · simp only [eDs, List.map_append, List.map_cons, List.map_nil]
        generalize us.map eD = B at *
        generalize eD t = T' at *
        simp [callF, hasSub, frzO, isDct, evd, keyOk, keyOk1, finF, exSs, exS, ev, evs, evo, evc, evi, R.bind, R.then, evVar, gt, fin, val, two, many, Opd.get, only, D.fzn, fzns, dCmp, gets, dBi, dBin, dAug, dNeg, asgS, asgT, asgTs, put, mayAsg, subK, augK, retV, fins, dTru, dLen, owns, opnds, mmR, dMm, Mm.md, callR0, callR, noExc, takes, puts, isTys, isTy, items, seqItems, grdOf, gOk, Ct.lock, clear, back, clearOk, D.fz, fzs, dSl, bound, D.isNon, lcR, dEq, D.plain, plains, D.dep, deps, deq, deqs, dIn, (by decide : 1 ≤ sizeLine), (by decide : 2 ≤ sizeLine), (by decide : 3 ≤ sizeLine), (by decide : 4 ≤ sizeLine), (by decide : 5 ≤ sizeLine), (by decide : 6 ≤ sizeLine), b_l5, e1', lL]
      · rcases List.mem_append.mp m with m | m
        · exact hg x m
        · rw [List.mem_singleton.mp m]; exact goodt
  obtain ⟨_, p', us, y5, rfl, q, hu, hg⟩ := h2
  exact ⟨p', us, y5, h1, q.mono (by simp), hu, hg⟩
theorem l7 {x0 x1 x2 x3 x4 x5 x7 x8 x9 x10 x11 x12 x13 : Option D} {lk : List Nat} {t : List Pc} (hlk : lk = [3]) (h21 : cf 21 [eD t] = .ok (.lst false ((opP t).map eF)) [eD t]) (h5 : ∀ e ∈ opP t, cf 5 [eD t, ePl e.1] = .ok (.bl e.2.2) [eD t, ePl e.1]) :
    ∃ y10 y11 y12 y13, exS ⟨1, args, cf, wf, lk⟩ s_l7 [x0, x1, x2, x3, x4, x5, some (eD t), x7, x8, x9, x10, x11, x12, x13] = .nx [x0, x1, x2, x3, x4, x5, some (eD t), x7, x8, x9, y10, y11, y12, y13] := by
  subst hlk
  have ft := eD_fz1 t
  have he : evi ⟨1, args, cf, wf, [3]⟩ (.e (.call 21 (.cons (.var 6) .nil))) [x0, x1, x2, x3, x4, x5, some (eD t), x7, x8, x9, x10, x11, x12, x13] =
      .ok (encI (fun _ b => eF b) 0 (opP t), []) [x0, x1, x2, x3, x4, x5, some (eD t), x7, x8, x9, x10, x11, x12, x13] := by
    rw [← enc_map]
    have fz := eF_fz (opP t)
    generalize (opP t).map eF = G at *
    simp [callF, hasSub, frzO, isDct, evd, keyOk, keyOk1, finF, exSs, exS, ev, evs, evo, evc, evi, R.bind, R.then, evVar, gt, fin, val, two, many, Opd.get, only, D.fzn, fzns, dCmp, gets, dBi, dBin, dAug, dNeg, asgS, asgT, asgTs, put, mayAsg, subK, augK, retV, fins, dTru, dLen, owns, opnds, mmR, dMm, Mm.md, callR0, callR, noExc, takes, puts, isTys, isTy, items, seqItems, grdOf, gOk, Ct.lock, clear, back, clearOk, D.fz, fzs, dSl, bound, D.isNon, lcR, dEq, D.plain, plains, D.dep, deps, deq, deqs, dIn, (by decide : 1 ≤ sizeLine), (by decide : 2 ≤ sizeLine), (by decide : 3 ≤ sizeLine), (by decide : 4 ≤ sizeLine), (by decide : 5 ≤ sizeLine), (by decide : 6 ≤ sizeLine), ft, h21, fz]
  obtain ⟨ρ', h1, h2⟩ := for_ix (C := ⟨1, args, cf, wf, [3]⟩) (t := .tup [(.nm 10), (.nm 11), (.nm 12)]) (b := b_l7) (opP t) (fun (_ : Unit) _ _ => ())
    (fun i _ ρ => ∃ y10 y11 y12 y13, ρ = [x0, x1, x2, x3, x4, x5, some (eD t), x7, x8, x9, y10, y11, y12, y13]) () he rfl ⟨_, _, _, _, rfl⟩
    fun i e _ ρ hi ⟨y10, y11, y12, y13, eq⟩ => by
      subst eq
      have m := List.mem_of_getElem? hi
      have f4 : (ePl e.1).fzn = true := rfl
      have f5 : (eS e.2.1).fzn = true := rfl
      refine ⟨[x0, x1, x2, x3, x4, x5, some (eD t), x7, x8, x9, some (ePl e.1), some (eS e.2.1), some (.bl e.2.2), y13], [x0, x1, x2, x3, x4, x5, some (eD t), x7, x8, x9, some (ePl e.1), some (eS e.2.1), some (.bl e.2.2), some (.bl e.2.2)], by simp [callF, hasSub, frzO, isDct, evd, keyOk, keyOk1, finF, exSs, exS, ev, evs, evo, evc, evi, R.bind, R.then, evVar, gt, fin, val, two, many, Opd.get, only, D.fzn, fzns, dCmp, gets, dBi, dBin, dAug, dNeg, asgS, asgT, asgTs, put, mayAsg, subK, augK, retV, fins, dTru, dLen, owns, opnds, mmR, dMm, Mm.md, callR0, callR, noExc, takes, puts, isTys, isTy, items, seqItems, grdOf, gOk, Ct.lock, clear, back, clearOk, D.fz, fzs, dSl, bound, D.isNon, lcR, dEq, D.plain, plains, D.dep, deps, deq, deqs, dIn, (by decide : 1 ≤ sizeLine), (by decide : 2 ≤ sizeLine), (by decide : 3 ≤ sizeLine), (by decide : 4 ≤ sizeLine), (by decide : 5 ≤ sizeLine), (by decide : 6 ≤ sizeLine), eF, f4, f5], .inl ?_, rfl, _, _, _, _, rfl⟩
      simp [callF, hasSub, frzO, isDct, evd, keyOk, keyOk1, finF, exSs, exS, ev, evs, evo, evc, evi, R.bind, R.then, evVar, gt, fin, val, two, many, Opd.get, only, D.fzn, fzns, dCmp, gets, dBi, dBin, dAug, dNeg, asgS, asgT, asgTs, put, mayAsg, subK, augK, retV, fins, dTru, dLen, owns, opnds, mmR, dMm, Mm.md, callR0, callR, noExc, takes, puts, isTys, isTy, items, seqItems, grdOf, gOk, Ct.lock, clear, back, clearOk, D.fz, fzs, dSl, bound, D.isNon, lcR, dEq, D.plain, plains, D.dep, deps, deq, deqs, dIn, (by decide : 1 ≤ sizeLine), (by decide : 2 ≤ sizeLine), (by decide : 3 ≤ sizeLine), (by decide : 4 ≤ sizeLine), (by decide : 5 ≤ sizeLine), (by decide : 6 ≤ sizeLine), b_l7, ft, f4, h5 e m]
  obtain ⟨y10, y11, y12, y13, rfl⟩ := h2
  exact ⟨y10, y11, y12, y13, h1⟩
theorem l6 {x0 x1 x2 x4 x5 x6 x7 x8 x9 x10 x11 x12 x13 : Option D} {ts : List (List Pc)} (h21 : ∀ t ∈ ts, cf 21 [eD t] = .ok (.lst false ((opP t).map eF)) [eD t]) (h5 : ∀ t ∈ ts, ∀ e ∈ opP t, cf 5 [eD t, ePl e.1] = .ok (.bl e.2.2) [eD t, ePl e.1]) :
    ∃ y6 y10 y11 y12 y13, exS ⟨1, args, cf, wf, []⟩ s_l6 [x0, x1, x2, some (eDs ts), x4, x5, x6, x7, x8, x9, x10, x11, x12, x13] = .nx [x0, x1, x2, some (eDs ts), x4, x5, y6, x7, x8, x9, y10, y11, y12, y13] := by
  have sme : (eDs ts).same (eDs ts) = true := same_refl _
  have he : evi ⟨1, args, cf, wf, []⟩ (.e (.var 3)) [x0, x1, x2, some (eDs ts), x4, x5, x6, x7, x8, x9, x10, x11, x12, x13] =
      .ok (encI (fun _ t => eD t) 0 ts, [(3, eDs ts)]) [x0, x1, x2, some (eDs ts), x4, x5, x6, x7, x8, x9, x10, x11, x12, x13] := by
    rw [← enc_map]
    have fz := eD_fz ts
    unfold eDs
    generalize ts.map eD = G at *
    simp [callF, hasSub, frzO, isDct, evd, keyOk, keyOk1, finF, exSs, exS, ev, evs, evo, evc, evi, R.bind, R.then, evVar, gt, fin, val, two, many, Opd.get, only, D.fzn, fzns, dCmp, gets, dBi, dBin, dAug, dNeg, asgS, asgT, asgTs, put, mayAsg, subK, augK, retV, fins, dTru, dLen, owns, opnds, mmR, dMm, Mm.md, callR0, callR, noExc, takes, puts, isTys, isTy, items, seqItems, grdOf, gOk, Ct.lock, clear, back, clearOk, D.fz, fzs, dSl, bound, D.isNon, lcR, dEq, D.plain, plains, D.dep, deps, deq, deqs, dIn, (by decide : 1 ≤ sizeLine), (by decide : 2 ≤ sizeLine), (by decide : 3 ≤ sizeLine), (by decide : 4 ≤ sizeLine), (by decide : 5 ≤ sizeLine), (by decide : 6 ≤ sizeLine), fz]
  obtain ⟨ρ', h1, h2⟩ := for_ix (C := ⟨1, args, cf, wf, []⟩) (t := .nm 6) (b := .cons s_l7 .nil) ts (fun (_ : Unit) _ _ => ())
    (fun i _ ρ => ∃ y6 y10 y11 y12 y13, ρ = [x0, x1, x2, some (eDs ts), x4, x5, y6, x7, x8, x9, y10, y11, y12, y13]) () he (by simp [callF, hasSub, frzO, isDct, evd, keyOk, keyOk1, finF, exSs, exS, ev, evs, evo, evc, evi, R.bind, R.then, evVar, gt, fin, val, two, many, Opd.get, only, D.fzn, fzns, dCmp, gets, dBi, dBin, dAug, dNeg, asgS, asgT, asgTs, put, mayAsg, subK, augK, retV, fins, dTru, dLen, owns, opnds, mmR, dMm, Mm.md, callR0, callR, noExc, takes, puts, isTys, isTy, items, seqItems, grdOf, gOk, Ct.lock, clear, back, clearOk, D.fz, fzs, dSl, bound, D.isNon, lcR, dEq, D.plain, plains, D.dep, deps, deq, deqs, dIn, (by decide : 1 ≤ sizeLine), (by decide : 2 ≤ sizeLine), (by decide : 3 ≤ sizeLine), (by decide : 4 ≤ sizeLine), (by decide : 5 ≤ sizeLine), (by decide : 6 ≤ sizeLine), sme]) ⟨_, _, _, _, _, rfl⟩
    fun i t _ ρ hi ⟨y6, y10, y11, y12, y13, eq⟩ => by
      subst eq
      have m := List.mem_of_getElem? hi
      obtain ⟨z10, z11, z12, z13, e⟩ := l7 (args := args) (cf := cf) (wf := wf) (x0 := x0) (x1 := x1) (x2 := x2) (x3 := some (eDs ts)) (x4 := x4) (x5 := x5) (x7 := x7) (x8 := x8) (x9 := x9) (x10 := y10) (x11 := y11) (x12 := y12) (x13 := y13) (lk := [3]) rfl (h21 t m) (h5 t m)
      refine ⟨[x0, x1, x2, some (eDs ts), x4, x5, some (eD t), x7, x8, x9, y10, y11, y12, y13], [x0, x1, x2, some (eDs ts), x4, x5, some (eD t), x7, x8, x9, z10, z11, z12, z13], by simp [callF, hasSub, frzO, isDct, evd, keyOk, keyOk1, finF, exSs, exS, ev, evs, evo, evc, evi, R.bind, R.then, evVar, gt, fin, val, two, many, Opd.get, only, D.fzn, fzns, dCmp, gets, dBi, dBin, dAug, dNeg, asgS, asgT, asgTs, put, mayAsg, subK, augK, retV, fins, dTru, dLen, owns, opnds, mmR, dMm, Mm.md, callR0, callR, noExc, takes, puts, isTys, isTy, items, seqItems, grdOf, gOk, Ct.lock, clear, back, clearOk, D.fz, fzs, dSl, bound, D.isNon, lcR, dEq, D.plain, plains, D.dep, deps, deq, deqs, dIn, (by decide : 1 ≤ sizeLine), (by decide : 2 ≤ sizeLine), (by decide : 3 ≤ sizeLine), (by decide : 4 ≤ sizeLine), (by decide : 5 ≤ sizeLine), (by decide : 6 ≤ sizeLine)], .inl ?_, by simp [callF, hasSub, frzO, isDct, evd, keyOk, keyOk1, finF, exSs, exS, ev, evs, evo, evc, evi, R.bind, R.then, evVar, gt, fin, val, two, many, Opd.get, only, D.fzn, fzns, dCmp, gets, dBi, dBin, dAug, dNeg, asgS, asgT, asgTs, put, mayAsg, subK, augK, retV, fins, dTru, dLen, owns, opnds, mmR, dMm, Mm.md, callR0, callR, noExc, takes, puts, isTys, isTy, items, seqItems, grdOf, gOk, Ct.lock, clear, back, clearOk, D.fz, fzs, dSl, bound, D.isNon, lcR, dEq, D.plain, plains, D.dep, deps, deq, deqs, dIn, (by decide : 1 ≤ sizeLine), (by decide : 2 ≤ sizeLine), (by decide : 3 ≤ sizeLine), (by decide : 4 ≤ sizeLine), (by decide : 5 ≤ sizeLine), (by decide : 6 ≤ sizeLine), sme], _, _, _, _, _, rfl⟩
      simp only [exSs]
      rw [show Ct.lock ⟨1, args, cf, wf, []⟩ [(3, eDs ts)] = ⟨1, args, cf, wf, [3]⟩ from rfl, e]
  obtain ⟨y6, y10, y11, y12, y13, rfl⟩ := h2
  exact ⟨y6, y10, y11, y12, y13, h1⟩
/-- what is told, what is due, of the two deals -/
structure Agree (cf : Nat → List D → FR) (t u : List Pc) : Prop where
  meet : ∃ x, cf 10 [eD t, eD u] = .ok x [eD t, eD u] ∧ cf 23 [eD t, eD u, .bl true] = .ok x [eD t, eD u, .bl true] ∧ cf 20 [x, x] = .ok (.bl true) [x, x] ∧ x.fzn = true
  clash : ∃ x, cf 11 [eD t, eD u] = .ok x [eD t, eD u] ∧ cf 23 [eD t, eD u, .bl false] = .ok x [eD t, eD u, .bl false] ∧ cf 20 [x, x] = .ok (.bl true) [x, x] ∧ x.fzn = true
theorem l8 {x0 x1 x2 x4 x5 x6 x7 x8 x9 x10 x11 x12 x13 : Option D} {ts : List (List Pc)} (hl : ts.length = 6) (ha : ∀ t ∈ ts, ∀ u ∈ ts, Agree cf t u) :
    ∃ y8 y9, exS ⟨1, args, cf, wf, []⟩ s_l8 [x0, x1, x2, some (eDs ts), x4, x5, x6, x7, x8, x9, x10, x11, x12, x13] = .nx [x0, x1, x2, some (eDs ts), x4, x5, x6, x7, y8, y9, x10, x11, x12, x13] := by
  have he : evi ⟨1, args, cf, wf, []⟩ it8 [x0, x1, x2, some (eDs ts), x4, x5, x6, x7, x8, x9, x10, x11, x12, x13] =
      .ok (encI (fun _ (q : Nat × Nat) => D.tup [.int (q.1 : Int), .int (q.2 : Int)]) 0 [(0, 1), (0, 2), (2, 3), (4, 5), (5, 1), (3, 3)], []) [x0, x1, x2, some (eDs ts), x4, x5, x6, x7, x8, x9, x10, x11, x12, x13] := by
    simp [callF, hasSub, frzO, isDct, evd, keyOk, keyOk1, finF, exSs, exS, ev, evs, evo, evc, evi, R.bind, R.then, evVar, gt, fin, val, two, many, Opd.get, only, D.fzn, fzns, dCmp, gets, dBi, dBin, dAug, dNeg, asgS, asgT, asgTs, put, mayAsg, subK, augK, retV, fins, dTru, dLen, owns, opnds, mmR, dMm, Mm.md, callR0, callR, noExc, takes, puts, isTys, isTy, items, seqItems, grdOf, gOk, Ct.lock, clear, back, clearOk, D.fz, fzs, dSl, bound, D.isNon, lcR, dEq, D.plain, plains, D.dep, deps, deq, deqs, dIn, (by decide : 1 ≤ sizeLine), (by decide : 2 ≤ sizeLine), (by decide : 3 ≤ sizeLine), (by decide : 4 ≤ sizeLine), (by decide : 5 ≤ sizeLine), (by decide : 6 ≤ sizeLine), it8, encI]
  obtain ⟨ρ', h1, h2⟩ := for_ix (C := ⟨1, args, cf, wf, []⟩) (t := .tup [(.nm 8), (.nm 9)]) (b := b_l8) [(0, 1), (0, 2), (2, 3), (4, 5), (5, 1), (3, 3)] (fun (_ : Unit) _ _ => ())
    (fun i _ ρ => ∃ y8 y9, ρ = [x0, x1, x2, some (eDs ts), x4, x5, x6, x7, y8, y9, x10, x11, x12, x13]) () he rfl ⟨_, _, rfl⟩
    fun i q _ ρ hi ⟨y8, y9, eq⟩ => by
      subst eq
      have m := List.mem_of_getElem? hi
      have hq : q.1 < ts.length ∧ q.2 < ts.length := by
        simp only [List.mem_cons, List.not_mem_nil, or_false] at m
        rcases m with rfl | rfl | rfl | rfl | rfl | rfl <;> simp [hl]
      obtain ⟨a, b⟩ := q
      obtain ⟨hqa, hqb⟩ := hq
      simp only at hqa hqb
      have i1 : dIx (eDs ts) (.int (a : Int)) = some (eD ts[a]) := ix_lst (by rw [List.getElem?_map, List.getElem?_eq_getElem hqa]; rfl)
      have i2 : dIx (eDs ts) (.int (b : Int)) = some (eD ts[b]) := ix_lst (by rw [List.getElem?_map, List.getElem?_eq_getElem hqb]; rfl)
      obtain ⟨⟨x, m1, m2, m3, fx⟩, ⟨y, c1, c2, c3, fy⟩⟩ := ha ts[a] (List.getElem_mem hqa) ts[b] (List.getElem_mem hqb)
      have f1 := eD_fz1 ts[a]
      have f2 := eD_fz1 ts[b]
      generalize eD ts[a] = A at *
      generalize eD ts[b] = B at *
      refine ⟨[x0, x1, x2, some (eDs ts), x4, x5, x6, x7, some (.int (a : Int)), some (.int (b : Int)), x10, x11, x12, x13], [x0, x1, x2, some (eDs ts), x4, x5, x6, x7, some (.int (a : Int)), some (.int (b : Int)), x10, x11, x12, x13], by simp [callF, hasSub, frzO, isDct, evd, keyOk, keyOk1, finF, exSs, exS, ev, evs, evo, evc, evi, R.bind, R.then, evVar, gt, fin, val, two, many, Opd.get, only, D.fzn, fzns, dCmp, gets, dBi, dBin, dAug, dNeg, asgS, asgT, asgTs, put, mayAsg, subK, augK, retV, fins, dTru, dLen, owns, opnds, mmR, dMm, Mm.md, callR0, callR, noExc, takes, puts, isTys, isTy, items, seqItems, grdOf, gOk, Ct.lock, clear, back, clearOk, D.fz, fzs, dSl, bound, D.isNon, lcR, dEq, D.plain, plains, D.dep, deps, deq, deqs, dIn, (by decide : 1 ≤ sizeLine), (by decide : 2 ≤ sizeLine), (by decide : 3 ≤ sizeLine), (by decide : 4 ≤ sizeLine), (by decide : 5 ≤ sizeLine), (by decide : 6 ≤ sizeLine)], .inl ?_, rfl, _, _, rfl⟩
      generalize eDs ts = TS at *
      simp [callF, hasSub, frzO, isDct, evd, keyOk, keyOk1, finF, exSs, exS, ev, evs, evo, evc, evi, R.bind, R.then, evVar, gt, fin, val, two, many, Opd.get, only, D.fzn, fzns, dCmp, gets, dBi, dBin, dAug, dNeg, asgS, asgT, asgTs, put, mayAsg, subK, augK, retV, fins, dTru, dLen, owns, opnds, mmR, dMm, Mm.md, callR0, callR, noExc, takes, puts, isTys, isTy, items, seqItems, grdOf, gOk, Ct.lock, clear, back, clearOk, D.fz, fzs, dSl, bound, D.isNon, lcR, dEq, D.plain, plains, D.dep, deps, deq, deqs, dIn, (by decide : 1 ≤ sizeLine), (by decide : 2 ≤ sizeLine), (by decide : 3 ≤ sizeLine), (by decide : 4 ≤ sizeLine), (by decide : 5 ≤ sizeLine), (by decide : 6 ≤ sizeLine), b_l8, i1, i2, f1, f2, fx, fy, m1, m2, m3, c1, c2, c3]
  obtain ⟨y8, y9, rfl⟩ := h2
  exact ⟨y8, y9, h1⟩
end
theorem law_v (wf : Nat) (ns : List Int) (k : Nat) : callF T wf (k + 9) 25 [.lst true (ns.map D.int)] = .ok (.bl true) [.lst true (ns.map D.int)] := by
  have dA : (39373 : Int).natAbs.log2 < 1000 := by decide
  have dB : (1021 : Int).natAbs.log2 < 1000 := by decide
  have dr : ∀ j, DrawS (callF T wf (j + 1) 13) := fun j => draw_s dA dB rfl
  have wd : ∀ j, WordS (callF T wf (j + 2) 15) := fun j => word_s (k := j + 1) (j := 13) rfl (dr j)
  have co : ∀ j, ColumnS (callF T wf (j + 3) 16) := fun j => column_s (k := j + 2) (j := 13) (i := 15) rfl (dr (j + 1)) (wd j)
  have od : ∀ j, OrderS (callF T wf (j + 2) 14) := fun j => order_s (k := j + 1) (j := 13) rfl (dr j)
  have so : SlotsS (callF T wf (k + 8) 17) := slots_s (k := k + 7) (j := 13) (w := 15) (c := 16) (o := 14) rfl (dr _) (wd _) (co _) (od _)
  have st : ∀ j, StmtS (callF T wf (j + 2) 18) := fun j => stmt_s (k := j + 1) (j := 13) rfl (dr j)
  have de : DealS (callF T wf (k + 8) 19) := deal_s (k := k + 7) (j := 13) (s := 18) rfl (dr _) (st _)
  have mx : MixedS (callF T wf (k + 8) 24) := mixed_s (k := k + 7) (dr _)
  have d8 : DrawS (callF T wf (k + 8) 13) := dr _
  obtain ⟨a, b, c, ep, qp⟩ := pool_ok (E := 59) (G := 3935559000370003845) (U := 7741) (V := 1021) (Z := 191) (M := 100000000000000000000000000000000000000000000000000000000000) ⟨by decide, by decide, by decide +kernel, by decide, by decide, by decide, by decide, by decide, by decide, by decide⟩ (T := T) (wf := wf) (k := k + 7) (j := 12) rfl ns
  have ep : callF T wf (k + 8) 12 [.lst true (ns.map D.int)] = .ok (pd (a, b, c)) [.lst true (ns.map D.int)] := ep
  have qp : PoolP (2 ^ 50) (a, b, c) := qp
  have big : (2 : Nat) ^ 50 = 1125899906842624 := by decide
  rw [big] at qp
  obtain ⟨sl, p1, e1, q1, l0, l1, hs, ls⟩ := so 30000 (a, b, c) 4 (qp.mono (by decide)) (by decide) (by decide)
  have e1' : callF T wf (k + 8) 17 [pd (a, b, c), .int 4] = .ok (.lst false sl) [pd p1, .int 4] := e1
  have ls4 : sl.length = 4 := by rw [ls]; decide
  obtain ⟨t0, p2, e2, q2, g0⟩ := mx 29000 p1 sl (q1.mono (by decide)) (by omega) hs
  obtain ⟨t1, p3, e3, q3, g1⟩ := mx 28000 p2 sl (q2.mono (by decide)) (by omega) hs
  obtain ⟨r, p4, e4, q4, hr⟩ := d8 27000 p3 4 (q3.mono (by decide)) (by decide) (by decide)
  obtain ⟨m, hm⟩ : ∃ m : Nat, m = 1 + r := ⟨_, rfl⟩
  have hm' : 1 + (r : Int) = (m : Int) := by omega
  have hsm : ∀ x ∈ sl.take m, Slot x := fun x h => hs x (List.mem_of_mem_take h)
  obtain ⟨p5, us, y5, e5, q5, lu, gu⟩ := l5 (args := [.lst true (ns.map D.int)]) (wf := wf) (n := 10000) de (sc := .lst true (ns.map D.int)) (sl := sl) (sm := sl.take m) (ts := [t0, t1]) (q4.mono (by decide)) (by rw [List.length_take]; omega) (by rw [List.length_take]; omega) hsm (fun t h => by
    simp only [List.mem_cons, List.not_mem_nil, or_false] at h
    rcases h with rfl | rfl
    · exact g0
    · exact g1) rfl
  obtain ⟨d, p6, e6, q6, hd'⟩ := de 0 p5 sl 1 8 4 (q5.mono (by decide)) l0 (by omega) hs (by decide) (by decide) (by decide) (by decide) (by decide) (by decide)
  obtain ⟨t5, rfl, g5⟩ := deal_dec d hd'
  have e6' : callF T wf (k + 8) 19 [pd p5, .lst false sl, .int 1, .int 8, .int 4] = .ok (eD t5) [pd p6, .lst false sl, .int 1, .int 8, .int 4] := e6
  obtain ⟨ts, hts⟩ : ∃ ts, ts = us ++ [t5] := ⟨_, rfl⟩
  have gts : ∀ t ∈ ts, Good t := fun t h => by
    rw [hts] at h
    rcases List.mem_append.mp h with h | h
    · exact gu t h
    · rw [List.mem_singleton.mp h]; exact g5
  have lts : ts.length = 6 := by rw [hts, List.length_append, lu]; rfl
  have ag : ∀ t ∈ ts, ∀ u ∈ ts, Agree (callF T wf (k + 8)) t u := fun t ht u hu =>
    ⟨⟨_, meetings_v (k := k + 4) (gts t ht) (gts u hu), pairs_v (k := k + 6) true (gts t ht) (gts u hu), same_v 3 (k := k + 4) _ (prs_tree (gts t ht) (gts u hu) _), tree_fz 3 _ (prs_tree (gts t ht) (gts u hu) _)⟩,
      ⟨_, clashes_v (k := k + 4) (gts t ht) (gts u hu), pairs_v (k := k + 6) false (gts t ht) (gts u hu), same_v 3 (k := k + 4) _ (prs_tree (gts t ht) (gts u hu) _), tree_fz 3 _ (prs_tree (gts t ht) (gts u hu) _)⟩⟩
  have h21 : ∀ t ∈ ts, callF T wf (k + 8) 21 [eD t] = .ok (.lst false ((opP t).map eF)) [eD t] := fun t h => steps_v (gts t h)
  have h5 : ∀ t ∈ ts, ∀ e ∈ opP t, callF T wf (k + 8) 5 [eD t, ePl e.1] = .ok (.bl e.2.2) [eD t, ePl e.1] := fun t _ e me => by
    obtain ⟨i, j, l, p, st, s, z1, z2, z3, rfl⟩ := op_mem me
    exact own_v (k := k + 6) z1 z2 z3
  obtain ⟨y6, y10, y11, y12, y13, e7⟩ := l6 (args := [.lst true (ns.map D.int)]) (wf := wf) (x0 := some (.lst true (ns.map D.int))) (x1 := some (pd p6)) (x2 := some (.lst false sl)) (x4 := some (.lst false (sl.take m))) (x5 := y5) (x6 := none) (x7 := none) (x8 := none) (x9 := none) (x10 := none) (x11 := none) (x12 := none) (x13 := none) h21 h5
  obtain ⟨y8, y9, e8⟩ := l8 (args := [.lst true (ns.map D.int)]) (wf := wf) (x0 := some (.lst true (ns.map D.int))) (x1 := some (pd p6)) (x2 := some (.lst false sl)) (x4 := some (.lst false (sl.take m))) (x5 := y5) (x6 := y6) (x7 := none) (x8 := none) (x9 := none) (x10 := y10) (x11 := y11) (x12 := y12) (x13 := y13) lts ag
  have i0 : dIx (eDs ts) (.int 0) = some (eD (ts[0]'(by omega))) := ix_lst (i := 0) (by rw [List.getElem?_map, List.getElem?_eq_getElem (by omega)]; rfl)
  have i1 : dIx (eDs ts) (.int 1) = some (eD (ts[1]'(by omega))) := ix_lst (i := 1) (by rw [List.getElem?_map, List.getElem?_eq_getElem (by omega)]; rfl)
  obtain ⟨⟨x, m1, m2, m3, fx⟩, _⟩ := ag (ts[1]'(by omega)) (List.getElem_mem _) (ts[0]'(by omega)) (List.getElem_mem _)
  have f0 := eD_fz1 (ts[0]'(by omega))
  have f1 := eD_fz1 (ts[1]'(by omega))
  have hT : T[25]? = some ⟨1, 14, b_law⟩ := rfl
  have top : callF T wf (k + 9) 25 [.lst true (ns.map D.int)] = finF [.lst true (ns.map D.int)] (exSs ⟨1, [.lst true (ns.map D.int)], callF T wf (k + 8), wf, []⟩ b_law [some (.lst true (ns.map D.int)), none, none, none, none, none, none, none, none, none, none, none, none, none]) := rfl
  have zs := slot_fz hs
  have zn := fzns_int ns
  rw [top, b_law_eq]
  generalize callF T wf (k + 8) = cf at *
  have ft0 := eD_fz1 t0
  have ft1 := eD_fz1 t1
  have ft5 := eD_fz1 t5
  generalize hC : (⟨1, [.lst true (ns.map D.int)], cf, wf, []⟩ : Ct) = C at *
  have s1 : exS C a_1 [some (.lst true (ns.map D.int)), none, none, none, none, none, none, none, none, none, none, none, none, none] = .nx [some (.lst true (ns.map D.int)), some (pd (a, b, c)), none, none, none, none, none, none, none, none, none, none, none, none] := by
    subst hC
    simp [callF, hasSub, frzO, isDct, evd, keyOk, keyOk1, finF, exSs, exS, ev, evs, evo, evc, evi, R.bind, R.then, evVar, gt, fin, val, two, many, Opd.get, only, D.fzn, fzns, dCmp, gets, dBi, dBin, dAug, dNeg, asgS, asgT, asgTs, put, mayAsg, subK, augK, retV, fins, dTru, dLen, owns, opnds, mmR, dMm, Mm.md, callR0, callR, noExc, takes, puts, isTys, isTy, items, seqItems, grdOf, gOk, Ct.lock, clear, back, clearOk, D.fz, fzs, dSl, bound, D.isNon, lcR, dEq, D.plain, plains, D.dep, deps, deq, deqs, dIn, (by decide : 1 ≤ sizeLine), (by decide : 2 ≤ sizeLine), (by decide : 3 ≤ sizeLine), (by decide : 4 ≤ sizeLine), (by decide : 5 ≤ sizeLine), (by decide : 6 ≤ sizeLine), a_1, ep, zn]
  have s2 : exS C a_2 [some (.lst true (ns.map D.int)), some (pd (a, b, c)), none, none, none, none, none, none, none, none, none, none, none, none] = .nx [some (.lst true (ns.map D.int)), some (pd p1), some (.lst false sl), none, none, none, none, none, none, none, none, none, none, none] := by
    subst hC
    simp [callF, hasSub, frzO, isDct, evd, keyOk, keyOk1, finF, exSs, exS, ev, evs, evo, evc, evi, R.bind, R.then, evVar, gt, fin, val, two, many, Opd.get, only, D.fzn, fzns, dCmp, gets, dBi, dBin, dAug, dNeg, asgS, asgT, asgTs, put, mayAsg, subK, augK, retV, fins, dTru, dLen, owns, opnds, mmR, dMm, Mm.md, callR0, callR, noExc, takes, puts, isTys, isTy, items, seqItems, grdOf, gOk, Ct.lock, clear, back, clearOk, D.fz, fzs, dSl, bound, D.isNon, lcR, dEq, D.plain, plains, D.dep, deps, deq, deqs, dIn, (by decide : 1 ≤ sizeLine), (by decide : 2 ≤ sizeLine), (by decide : 3 ≤ sizeLine), (by decide : 4 ≤ sizeLine), (by decide : 5 ≤ sizeLine), (by decide : 6 ≤ sizeLine), a_2, e1']
  have s3 : exS C a_3 [some (.lst true (ns.map D.int)), some (pd p1), some (.lst false sl), none, none, none, none, none, none, none, none, none, none, none] = .nx [some (.lst true (ns.map D.int)), some (pd p3), some (.lst false sl), some (eDs [t0, t1]), none, none, none, none, none, none, none, none, none, none] := by
    subst hC
    simp [callF, hasSub, frzO, isDct, evd, keyOk, keyOk1, finF, exSs, exS, ev, evs, evo, evc, evi, R.bind, R.then, evVar, gt, fin, val, two, many, Opd.get, only, D.fzn, fzns, dCmp, gets, dBi, dBin, dAug, dNeg, asgS, asgT, asgTs, put, mayAsg, subK, augK, retV, fins, dTru, dLen, owns, opnds, mmR, dMm, Mm.md, callR0, callR, noExc, takes, puts, isTys, isTy, items, seqItems, grdOf, gOk, Ct.lock, clear, back, clearOk, D.fz, fzs, dSl, bound, D.isNon, lcR, dEq, D.plain, plains, D.dep, deps, deq, deqs, dIn, (by decide : 1 ≤ sizeLine), (by decide : 2 ≤ sizeLine), (by decide : 3 ≤ sizeLine), (by decide : 4 ≤ sizeLine), (by decide : 5 ≤ sizeLine), (by decide : 6 ≤ sizeLine), a_3, e2, e3, eDs, (by decide : 2 ≤ sizeLine)]
  have s4 : exS C a_4 [some (.lst true (ns.map D.int)), some (pd p3), some (.lst false sl), some (eDs [t0, t1]), none, none, none, none, none, none, none, none, none, none] = .nx [some (.lst true (ns.map D.int)), some (pd p4), some (.lst false sl), some (eDs [t0, t1]), some (.lst false (sl.take m)), none, none, none, none, none, none, none, none, none] := by
    subst hC
    simp [callF, hasSub, frzO, isDct, evd, keyOk, keyOk1, finF, exSs, exS, ev, evs, evo, evc, evi, R.bind, R.then, evVar, gt, fin, val, two, many, Opd.get, only, D.fzn, fzns, dCmp, gets, dBi, dBin, dAug, dNeg, asgS, asgT, asgTs, put, mayAsg, subK, augK, retV, fins, dTru, dLen, owns, opnds, mmR, dMm, Mm.md, callR0, callR, noExc, takes, puts, isTys, isTy, items, seqItems, grdOf, gOk, Ct.lock, clear, back, clearOk, D.fz, fzs, dSl, bound, D.isNon, lcR, dEq, D.plain, plains, D.dep, deps, deq, deqs, dIn, (by decide : 1 ≤ sizeLine), (by decide : 2 ≤ sizeLine), (by decide : 3 ≤ sizeLine), (by decide : 4 ≤ sizeLine), (by decide : 5 ≤ sizeLine), (by decide : 6 ≤ sizeLine), a_4, e4, hm', cut_take, zs]
  have s6 : exS C a_6 [some (.lst true (ns.map D.int)), some (pd p5), some (.lst false sl), some (eDs us), some (.lst false (sl.take m)), y5, none, none, none, none, none, none, none, none] = .nx [some (.lst true (ns.map D.int)), some (pd p6), some (.lst false sl), some (eDs ts), some (.lst false (sl.take m)), y5, none, none, none, none, none, none, none, none] := by
    have lL : (us.map eD).length < sizeLine := Nat.lt_of_le_of_lt (by rw [List.length_map]; omega : _ ≤ 1000) (by decide)
    rw [hts]
    simp only [eDs, List.map_append, List.map_cons, List.map_nil]
    generalize us.map eD = B at *
    generalize eD t5 = T' at *
    subst hC
    simp [callF, hasSub, frzO, isDct, evd, keyOk, keyOk1, finF, exSs, exS, ev, evs, evo, evc, evi, R.bind, R.then, evVar, gt, fin, val, two, many, Opd.get, only, D.fzn, fzns, dCmp, gets, dBi, dBin, dAug, dNeg, asgS, asgT, asgTs, put, mayAsg, subK, augK, retV, fins, dTru, dLen, owns, opnds, mmR, dMm, Mm.md, callR0, callR, noExc, takes, puts, isTys, isTy, items, seqItems, grdOf, gOk, Ct.lock, clear, back, clearOk, D.fz, fzs, dSl, bound, D.isNon, lcR, dEq, D.plain, plains, D.dep, deps, deq, deqs, dIn, (by decide : 1 ≤ sizeLine), (by decide : 2 ≤ sizeLine), (by decide : 3 ≤ sizeLine), (by decide : 4 ≤ sizeLine), (by decide : 5 ≤ sizeLine), (by decide : 6 ≤ sizeLine), a_6, e6', lL]
  simp only [exSs, s1, s2, s3, s4, e5, s6, e7, e8]
  generalize eDs ts = TS at *
  generalize eD (ts[0]'(by omega)) = A at *
  generalize eD (ts[1]'(by omega)) = B at *
  subst hC
  simp [callF, hasSub, frzO, isDct, evd, keyOk, keyOk1, finF, exSs, exS, ev, evs, evo, evc, evi, R.bind, R.then, evVar, gt, fin, val, two, many, Opd.get, only, D.fzn, fzns, dCmp, gets, dBi, dBin, dAug, dNeg, asgS, asgT, asgTs, put, mayAsg, subK, augK, retV, fins, dTru, dLen, owns, opnds, mmR, dMm, Mm.md, callR0, callR, noExc, takes, puts, isTys, isTy, items, seqItems, grdOf, gOk, Ct.lock, clear, back, clearOk, D.fz, fzs, dSl, bound, D.isNon, lcR, dEq, D.plain, plains, D.dep, deps, deq, deqs, dIn, (by decide : 1 ≤ sizeLine), (by decide : 2 ≤ sizeLine), (by decide : 3 ≤ sizeLine), (by decide : 4 ≤ sizeLine), (by decide : 5 ≤ sizeLine), (by decide : 6 ≤ sizeLine), t_l, i0, i1, f0, f1, m1, m2, m3, fx, zn]
end Aw.L05

set_option Elab.async false
set_option linter.all false
set_option maxRecDepth 100000
set_option maxHeartbeats 4000000
namespace K05
open PySem L2 PySem.Spec Aw
open PyProof.Rows hiding St
def topS (i : Nat) : Stmt := PySem.Challenge.pw_asinturn_k05_own_meetings.main.body.getD i (.Pass ⟨0, 0, 0, 0⟩)
abbrev s_is_change : Stmt := topS 1
abbrev s_kinds_clash : Stmt := topS 2
abbrev s_kinds_meet : Stmt := topS 3
abbrev s_places_of : Stmt := topS 5
abbrev s_step_at : Stmt := topS 6
abbrev s_is_own : Stmt := topS 7
abbrev s_placed_steps : Stmt := topS 8
abbrev s_open_steps : Stmt := topS 9
abbrev s_steps_meet : Stmt := topS 11
abbrev s_steps_clash : Stmt := topS 12
abbrev s_meetings_of : Stmt := topS 13
abbrev s_clashes_of : Stmt := topS 14
abbrev s_law_pool : Stmt := topS 16
abbrev s_law_draw : Stmt := topS 17
abbrev s_law_order : Stmt := topS 18
abbrev s_law_word : Stmt := topS 19
abbrev s_law_column : Stmt := topS 20
abbrev s_law_slots : Stmt := topS 21
abbrev s_law_statement : Stmt := topS 22
abbrev s_law_deal : Stmt := topS 23
abbrev s_law_same : Stmt := topS 24
abbrev s_law_steps : Stmt := topS 25
abbrev s_law_clash : Stmt := topS 26
abbrev s_law_pairs : Stmt := topS 27
abbrev s_law_mixed : Stmt := topS 28
abbrev s_law : Stmt := topS 29
theorem sc_is_change : FnScope ["kind"] ["kind"] (defScope s_is_change) := ⟨rfl, rfl, rfl, by decide +kernel, rfl, by decide +kernel, by decide +kernel⟩
theorem sc_kinds_clash : FnScope ["one", "other"] ["one", "other"] (defScope s_kinds_clash) := ⟨rfl, rfl, rfl, by decide +kernel, rfl, by decide +kernel, by decide +kernel⟩
theorem sc_kinds_meet : FnScope ["one", "other"] ["one", "other"] (defScope s_kinds_meet) := ⟨rfl, rfl, rfl, by decide +kernel, rfl, by decide +kernel, by decide +kernel⟩
theorem sc_places_of : FnScope ["deal", "found", "piece", "level", "statements", "at", "statement", "step"] ["deal"] (defScope s_places_of) := ⟨rfl, rfl, rfl, by decide +kernel, rfl, by decide +kernel, by decide +kernel⟩
theorem sc_step_at : FnScope ["deal", "place"] ["deal", "place"] (defScope s_step_at) := ⟨rfl, rfl, rfl, by decide +kernel, rfl, by decide +kernel, by decide +kernel⟩
theorem sc_is_own : FnScope ["deal", "place", "wrote", "kind", "column", "row", "statement"] ["deal", "place"] (defScope s_is_own) := ⟨rfl, rfl, rfl, by decide +kernel, rfl, by decide +kernel, by decide +kernel⟩
theorem sc_placed_steps : FnScope ["deal", "place"] ["deal"] (defScope s_placed_steps) := ⟨rfl, rfl, rfl, by decide +kernel, rfl, by decide +kernel, by decide +kernel⟩
theorem sc_open_steps : FnScope ["deal", "found", "piece", "wrote", "level", "statements", "at", "statement", "number", "kind", "column", "row"] ["deal"] (defScope s_open_steps) := ⟨rfl, rfl, rfl, by decide +kernel, rfl, by decide +kernel, by decide +kernel⟩
theorem sc_steps_meet : FnScope ["one", "other"] ["one", "other"] (defScope s_steps_meet) := ⟨rfl, rfl, rfl, by decide +kernel, rfl, by decide +kernel, by decide +kernel⟩
theorem sc_steps_clash : FnScope ["one", "other"] ["one", "other"] (defScope s_steps_clash) := ⟨rfl, rfl, rfl, by decide +kernel, rfl, by decide +kernel, by decide +kernel⟩
theorem sc_meetings_of : FnScope ["one", "other", "found", "others", "place", "step", "there", "second"] ["one", "other"] (defScope s_meetings_of) := ⟨rfl, rfl, rfl, by decide +kernel, rfl, by decide +kernel, by decide +kernel⟩
theorem sc_clashes_of : FnScope ["one", "other", "found", "others", "place", "step", "there", "second"] ["one", "other"] (defScope s_clashes_of) := ⟨rfl, rfl, rfl, by decide +kernel, rfl, by decide +kernel, by decide +kernel⟩
theorem sc_law_pool : FnScope ["script", "pool", "cell", "low", "great", "mixed"] ["script"] (defScope s_law_pool) := ⟨rfl, rfl, rfl, by decide +kernel, rfl, by decide +kernel, by decide +kernel⟩
theorem sc_law_draw : FnScope ["pool", "many", "found"] ["pool", "many"] (defScope s_law_draw) := ⟨rfl, rfl, rfl, by decide +kernel, rfl, by decide +kernel, by decide +kernel⟩
theorem sc_law_order : FnScope ["pool", "things", "left", "found", "lap", "at"] ["pool", "things"] (defScope s_law_order) := ⟨rfl, rfl, rfl, by decide +kernel, rfl, by decide +kernel, by decide +kernel⟩
theorem sc_law_word : FnScope ["pool", "signs", "least", "most", "size", "at"] ["pool", "signs", "least", "most"] (defScope s_law_word) := ⟨rfl, rfl, rfl, by decide +kernel, rfl, by decide +kernel, by decide +kernel⟩
theorem sc_law_column : FnScope ["pool", "capitals", "signs"] ["pool"] (defScope s_law_column) := ⟨rfl, rfl, rfl, by decide +kernel, rfl, by decide +kernel, by decide +kernel⟩
theorem sc_law_slots : FnScope ["pool", "many", "column", "other", "stem", "begin", "rows", "pairs", "at", "row"] ["pool", "many"] (defScope s_law_slots) := ⟨rfl, rfl, rfl, by decide +kernel, rfl, by decide +kernel, by decide +kernel⟩
theorem sc_law_statement : FnScope ["pool", "slots", "most", "some", "lap", "kind", "slot", "other"] ["pool", "slots", "most"] (defScope s_law_statement) := ⟨rfl, rfl, rfl, by decide +kernel, rfl, by decide +kernel, by decide +kernel⟩
theorem sc_law_deal : FnScope ["pool", "slots", "pieces", "most", "wide", "made", "piece", "statements", "at"] ["pool", "slots", "pieces", "most", "wide"] (defScope s_law_deal) := ⟨rfl, rfl, rfl, by decide +kernel, rfl, by decide +kernel, by decide +kernel⟩
theorem sc_law_same : FnScope ["told", "due", "at"] ["told", "due"] (defScope s_law_same) := ⟨rfl, rfl, rfl, by decide +kernel, rfl, by decide +kernel, by decide +kernel⟩
theorem sc_law_steps : FnScope ["deal", "found", "piece", "written", "at", "steps", "number", "own", "step"] ["deal"] (defScope s_law_steps) := ⟨rfl, rfl, rfl, by decide +kernel, rfl, by decide +kernel, by decide +kernel⟩
theorem sc_law_clash : FnScope ["one", "other", "some"] ["one", "other"] (defScope s_law_clash) := ⟨rfl, rfl, rfl, by decide +kernel, rfl, by decide +kernel, by decide +kernel⟩
theorem sc_law_pairs : FnScope ["one", "other", "meet", "found", "place", "step", "own", "there", "step_there", "own_there", "kinds"] ["one", "other", "meet"] (defScope s_law_pairs) := ⟨rfl, rfl, rfl, by decide +kernel, rfl, by decide +kernel, by decide +kernel⟩
theorem sc_law_mixed : FnScope ["pool", "slots", "some", "lap", "step", "at", "pieces", "kind", "piece"] ["pool", "slots"] (defScope s_law_mixed) := ⟨rfl, rfl, rfl, by decide +kernel, rfl, by decide +kernel, by decide +kernel⟩
theorem sc_law : FnScope ["script", "pool", "slots", "deals", "some", "lap", "deal", "turned", "one", "other", "place", "step", "own", "told"] ["script"] (defScope s_law) := ⟨rfl, rfl, rfl, by decide +kernel, rfl, by decide +kernel, by decide +kernel⟩
section
variable {P : Program} {w : World} {K : PySem.W.Frag} {mg : Str → Option Value} {base : Heap} {f : Addr} {fd : FuncData} {k wf : Nat}
theorem w_is_change (F : Fun K "is_change" "is_change" s_is_change f fd)   : FnOk P w K mg base (L2.CX P w) (k + 1) f fd ["kind"] (spF K 1 (callF T wf (k + 1) 0)) :=
 fn_ok F sc_is_change rfl rfl rfl fun X args σ0 W cdv A outer s H E hX hr tk po => by
  subst hX
  have hu := hu_ok hr
  have nd := sc_is_change.nd
  exact (jb_cons (js_ret (je_cmpK (o := .isIn) hu je_varR (je_tupR (ja_cons je_strK (ja_cons je_strK ja_nil)))))
 jb_nil)
theorem w_kinds_clash (F : Fun K "kinds_clash" "kinds_clash" s_kinds_clash f fd)   : FnOk P w K mg base (L2.CX P w) (k + 1) f fd ["one", "other"] (spF K 2 (callF T wf (k + 1) 1)) :=
 fn_ok F sc_kinds_clash rfl rfl rfl fun X args σ0 W cdv A outer s H E hX hr tk po => by
  subst hX
  have hu := hu_ok hr
  have nd := sc_kinds_clash.nd
  exact (jb_cons (js_if (jt_cmp (o := .eq) hu je_varR je_strR) (jb_cons (js_ret (je_cmpK (o := .ne) hu je_varR je_strR))
 jb_nil) jb_nil)
 (jb_cons (js_if (jt_cmp (o := .eq) hu je_varR je_strR) (jb_cons (js_ret (je_cmpK (o := .ne) hu je_varR je_strR))
 jb_nil) jb_nil)
 (jb_cons (js_ret (je_orK (je_andK (je_cmpK (o := .eq) hu je_varR je_strR) (je_and1 (je_cmpK (o := .eq) hu je_varR je_strR))) (je_or1 (je_andK (je_cmpK (o := .eq) hu je_varR je_strR) (je_and1 (je_cmpK (o := .eq) hu je_varR je_strR))))))
 jb_nil)))
theorem w_kinds_meet (F : Fun K "kinds_meet" "kinds_meet" s_kinds_meet f fd) (c_is_change : Cee P w K mg base (callF T wf k 0) "is_change" 1 k) (c_kinds_clash : Cee P w K mg base (callF T wf k 1) "kinds_clash" 2 k)  : FnOk P w K mg base (L2.CX P w) (k + 1) f fd ["one", "other"] (spF K 2 (callF T wf (k + 1) 2)) :=
 fn_ok F sc_kinds_meet rfl rfl rfl fun X args σ0 W cdv A outer s H E hX hr tk po => by
  subst hX
  have hu := hu_ok hr
  have nd := sc_kinds_meet.nd
  exact (jb_cons (js_if (jt_fin (je_callR c_kinds_clash tk hr (ja_cons je_varR (ja_cons je_varR ja_nil)))) (jb_cons (js_ret je_blK)
 jb_nil) jb_nil)
 (jb_cons (js_ret (je_orK (je_andK (je_callK c_is_change tk hr (ja_cons je_varR ja_nil)) (je_and1 (je_cmpK (o := .isIn) hu je_varR (je_tupR (ja_cons je_strK (ja_cons je_strK ja_nil)))))) (je_or1 (je_andK (je_callK c_is_change tk hr (ja_cons je_varR ja_nil)) (je_and1 (je_cmpK (o := .isIn) hu je_varR (je_tupR (ja_cons je_strK (ja_cons je_strK ja_nil)))))))))
 jb_nil))
theorem w_places_of (F : Fun K "places_of" "places_of" s_places_of f fd)  (z_tuple : mg "tuple" = none) (z_enumerate : mg "enumerate" = none) (z_range : mg "range" = none) (z_len : mg "len" = none) : FnOk P w K mg base (L2.CX P w) (k + 1) f fd ["deal"] (spF K 1 (callF T wf (k + 1) 3)) :=
 fn_ok F sc_places_of rfl rfl rfl fun X args σ0 W cdv A outer s H E hX hr tk po => by
  subst hX
  have hu := hu_ok hr
  have nd := sc_places_of.nd
  exact (jb_cons (js_asg (je_lstK ja_nil) (jg_nm nd))
 (jb_cons (js_for po (ji_enum z_enumerate je_varR) (fun _ _ => (jg_tup (jgs_cons (jg_nm nd) (jgs_cons (jg_tup (jgs_cons (jg_nm nd) (jgs_cons (jg_nm nd) jgs_nil))) jgs_nil)))) (fun _ _ => (jb_cons (js_for po (ji_enum z_enumerate je_varR) (fun _ _ => (jg_tup (jgs_cons (jg_nm nd) (jgs_cons (jg_nm nd) jgs_nil)))) (fun _ _ => (jb_cons (js_ex (je_extend (pv 1) (ja_cons (je_lcR [("step", 7)] nd (ji_rng1 z_range (ja_cons (je_biR .len hu z_len (ja_cons je_varR ja_nil)) ja_nil)) (fun _ _ _ _ _ _ _ => (jg_nm nd)) (fun _ _ _ _ _ _ _ => jc_no) (fun _ _ _ _ _ _ _ => (je_tupK (ja_cons je_varK (ja_cons je_varK (ja_cons je_varK ja_nil)))))) ja_nil)))
 jb_nil)))
 jb_nil)))
 (jb_cons (js_ret (je_biK .tuple hu z_tuple (ja_cons je_varR ja_nil)))
 jb_nil)))
theorem w_step_at (F : Fun K "step_at" "step_at" s_step_at f fd)   : FnOk P w K mg base (L2.CX P w) (k + 1) f fd ["deal", "place"] (spF K 2 (callF T wf (k + 1) 4)) :=
 fn_ok F sc_step_at rfl rfl rfl fun X args σ0 W cdv A outer s H E hX hr tk po => by
  subst hX
  have hu := hu_ok hr
  have nd := sc_step_at.nd
  exact (jb_cons (js_ret (je_ixK hu (je_ixR hu (je_ixR hu (je_ixR hu je_varR (je_ixR hu je_varR je_intR)) je_intR) (je_ixR hu je_varR je_intR)) (je_ixR hu je_varR je_intR)))
 jb_nil)
theorem w_is_own (F : Fun K "is_own" "is_own" s_is_own f fd) (c_step_at : Cee P w K mg base (callF T wf k 4) "step_at" 2 k) (z_any : mg "any" = none) : FnOk P w K mg base (L2.CX P w) (k + 1) f fd ["deal", "place"] (spF K 2 (callF T wf (k + 1) 5)) :=
 fn_ok F sc_is_own rfl rfl rfl fun X args σ0 W cdv A outer s H E hX hr tk po => by
  subst hX
  have hu := hu_ok hr
  have nd := sc_is_own.nd
  exact (jb_cons (js_asg (je_callK c_step_at tk hr (ja_cons je_varR (ja_cons je_varR ja_nil))) (jg_tup (jgs_cons (jg_nm nd) (jgs_cons (jg_nm nd) (jgs_cons (jg_nm nd) jgs_nil)))))
 (jb_cons (js_if (jt_cmp (o := .notIn) hu je_varR (je_tupR (ja_cons je_strK (ja_cons je_strK ja_nil)))) (jb_cons (js_ret je_blK)
 jb_nil) jb_nil)
 (jb_cons (js_asg (je_tupK (ja_cons je_strK (ja_cons je_varK (ja_cons je_varK ja_nil)))) (jg_nm nd))
 (jb_cons (js_ret (je_biK .any hu z_any (ja_cons (je_lcR [("statement", 6)] nd (ji_e (je_slR (je_ixR hu (je_ixR hu je_varR (je_ixR hu je_varR je_intR)) je_intR) jo_no (jo_yes (je_ixR hu je_varR je_intR)))) (fun _ _ _ _ _ _ _ => (jg_nm nd)) (fun _ _ _ _ _ _ _ => jc_no) (fun _ _ _ _ _ _ _ => (je_cmpK (o := .isIn) hu je_varR je_varR))) ja_nil)))
 jb_nil))))
theorem w_placed_steps (F : Fun K "placed_steps" "placed_steps" s_placed_steps f fd) (c_places_of : Cee P w K mg base (callF T wf k 3) "places_of" 1 k) (c_step_at : Cee P w K mg base (callF T wf k 4) "step_at" 2 k)  : FnOk P w K mg base (L2.CX P w) (k + 1) f fd ["deal"] (spF K 1 (callF T wf (k + 1) 6)) :=
 fn_ok F sc_placed_steps rfl rfl rfl fun X args σ0 W cdv A outer s H E hX hr tk po => by
  subst hX
  have hu := hu_ok hr
  have nd := sc_placed_steps.nd
  exact (jb_cons (js_ret (je_lcK [("place", 1)] nd (ji_e (je_callR c_places_of tk hr (ja_cons je_varR ja_nil))) (fun _ _ _ _ _ _ _ => (jg_nm nd)) (fun _ _ _ _ _ _ _ => jc_no) (fun _ _ _ _ _ _ _ => (je_tupK (ja_cons je_varK (ja_cons (je_callK c_step_at takes0 hr (ja_cons je_varR (ja_cons je_varR ja_nil))) ja_nil))))))
 jb_nil)
theorem w_open_steps (F : Fun K "open_steps" "open_steps" s_open_steps f fd)  (z_enumerate : mg "enumerate" = none) : FnOk P w K mg base (L2.CX P w) (k + 1) f fd ["deal"] (spF K 1 (callF T wf (k + 1) 7)) :=
 fn_ok F sc_open_steps rfl rfl rfl fun X args σ0 W cdv A outer s H E hX hr tk po => by
  subst hX
  have hu := hu_ok hr
  have nd := sc_open_steps.nd
  exact (jb_cons (js_asg (je_lstK ja_nil) (jg_nm nd))
 (jb_cons (js_for po (ji_enum z_enumerate je_varR) (fun _ _ => (jg_tup (jgs_cons (jg_nm nd) (jgs_cons (jg_tup (jgs_cons (jg_nm nd) (jgs_cons (jg_nm nd) jgs_nil))) jgs_nil)))) (fun _ _ => (jb_cons (js_asg je_dnewTK (jg_nm nd))
 (jb_cons (js_for po (ji_enum z_enumerate je_varR) (fun _ _ => (jg_tup (jgs_cons (jg_nm nd) (jgs_cons (jg_nm nd) jgs_nil)))) (fun _ _ => (jb_cons (js_for po (ji_enum z_enumerate je_varR) (fun _ _ => (jg_tup (jgs_cons (jg_nm nd) (jgs_cons (jg_tup (jgs_cons (jg_nm nd) (jgs_cons (jg_nm nd) (jgs_cons (jg_nm nd) jgs_nil)))) jgs_nil)))) (fun _ _ => (jb_cons (js_if (JW.pt (jw_or (jt_cmp (o := .notIn) hu je_varR (je_tupR (ja_cons je_strK (ja_cons je_strK ja_nil)))) (jw_or1 (jt_cmp (o := .notIn) hu (je_tupR (ja_cons je_varK (ja_cons je_varK ja_nil))) je_varR)))) (jb_cons (js_ex (je_append (pv 1) (ja_cons (je_tupK (ja_cons (je_tupK (ja_cons je_varK (ja_cons je_varK (ja_cons je_varK ja_nil)))) (ja_cons (je_tupK (ja_cons je_varK (ja_cons je_varK (ja_cons je_varK ja_nil)))) ja_nil))) ja_nil)))
 jb_nil) jb_nil)
 jb_nil)))
 (jb_cons (js_for po (ji_e je_varR) (fun _ _ => (jg_tup (jgs_cons (jg_nm nd) (jgs_cons (jg_nm nd) (jgs_cons (jg_nm nd) jgs_nil))))) (fun _ _ => (jb_cons (js_if (jt_cmp (o := .eq) hu je_varR je_strR) (jb_cons (js_sub hu (pv 3) (je_tupR (ja_cons je_varK (ja_cons je_varK ja_nil))) je_blK)
 jb_nil) jb_nil)
 jb_nil)))
 jb_nil))))
 jb_nil))))
 (jb_cons (js_retV (pv 1))
 jb_nil)))
theorem w_steps_meet (F : Fun K "steps_meet" "steps_meet" s_steps_meet f fd) (c_kinds_meet : Cee P w K mg base (callF T wf k 2) "kinds_meet" 2 k)  : FnOk P w K mg base (L2.CX P w) (k + 1) f fd ["one", "other"] (spF K 2 (callF T wf (k + 1) 8)) :=
 fn_ok F sc_steps_meet rfl rfl rfl fun X args σ0 W cdv A outer s H E hX hr tk po => by
  subst hX
  have hu := hu_ok hr
  have nd := sc_steps_meet.nd
  exact (jb_cons (js_ret (je_andK (je_cmpK (o := .eq) hu (je_slR je_varR (jo_yes je_intR) jo_no) (je_slR je_varR (jo_yes je_intR) jo_no)) (je_and1 (je_callK c_kinds_meet tk hr (ja_cons (je_ixR hu je_varR je_intR) (ja_cons (je_ixR hu je_varR je_intR) ja_nil))))))
 jb_nil)
theorem w_steps_clash (F : Fun K "steps_clash" "steps_clash" s_steps_clash f fd) (c_kinds_clash : Cee P w K mg base (callF T wf k 1) "kinds_clash" 2 k)  : FnOk P w K mg base (L2.CX P w) (k + 1) f fd ["one", "other"] (spF K 2 (callF T wf (k + 1) 9)) :=
 fn_ok F sc_steps_clash rfl rfl rfl fun X args σ0 W cdv A outer s H E hX hr tk po => by
  subst hX
  have hu := hu_ok hr
  have nd := sc_steps_clash.nd
  exact (jb_cons (js_ret (je_andK (je_cmpK (o := .eq) hu (je_slR je_varR (jo_yes je_intR) jo_no) (je_slR je_varR (jo_yes je_intR) jo_no)) (je_and1 (je_callK c_kinds_clash tk hr (ja_cons (je_ixR hu je_varR je_intR) (ja_cons (je_ixR hu je_varR je_intR) ja_nil))))))
 jb_nil)
theorem w_meetings_of (F : Fun K "meetings_of" "meetings_of" s_meetings_of f fd) (c_open_steps : Cee P w K mg base (callF T wf k 7) "open_steps" 1 k) (c_steps_meet : Cee P w K mg base (callF T wf k 8) "steps_meet" 2 k) (z_tuple : mg "tuple" = none) : FnOk P w K mg base (L2.CX P w) (k + 1) f fd ["one", "other"] (spF K 2 (callF T wf (k + 1) 10)) :=
 fn_ok F sc_meetings_of rfl rfl rfl fun X args σ0 W cdv A outer s H E hX hr tk po => by
  subst hX
  have hu := hu_ok hr
  have nd := sc_meetings_of.nd
  exact (jb_cons (js_asg (je_lstK ja_nil) (jg_nm nd))
 (jb_cons (js_asg (je_callK c_open_steps tk hr (ja_cons je_varR ja_nil)) (jg_nm nd))
 (jb_cons (js_for po (ji_e (je_callR c_open_steps tk hr (ja_cons je_varR ja_nil))) (fun _ _ => (jg_tup (jgs_cons (jg_nm nd) (jgs_cons (jg_nm nd) jgs_nil)))) (fun _ _ => (jb_cons (js_ex (je_extend (pv 2) (ja_cons (je_lcR [("there", 6), ("second", 7)] nd (ji_e je_varR) (fun _ _ _ _ _ _ _ => (jg_tup (jgs_cons (jg_nm nd) (jgs_cons (jg_nm nd) jgs_nil)))) (fun _ _ _ _ _ _ _ => (jc_yes (jt_fin (je_callR c_steps_meet takes0 hr (ja_cons je_varR (ja_cons je_varR ja_nil)))))) (fun _ _ _ _ _ _ _ => (je_tupK (ja_cons je_varK (ja_cons je_varK ja_nil))))) ja_nil)))
 jb_nil)))
 (jb_cons (js_ret (je_biK .tuple hu z_tuple (ja_cons je_varR ja_nil)))
 jb_nil))))
theorem w_clashes_of (F : Fun K "clashes_of" "clashes_of" s_clashes_of f fd) (c_placed_steps : Cee P w K mg base (callF T wf k 6) "placed_steps" 1 k) (c_steps_clash : Cee P w K mg base (callF T wf k 9) "steps_clash" 2 k) (z_tuple : mg "tuple" = none) : FnOk P w K mg base (L2.CX P w) (k + 1) f fd ["one", "other"] (spF K 2 (callF T wf (k + 1) 11)) :=
 fn_ok F sc_clashes_of rfl rfl rfl fun X args σ0 W cdv A outer s H E hX hr tk po => by
  subst hX
  have hu := hu_ok hr
  have nd := sc_clashes_of.nd
  exact (jb_cons (js_asg (je_lstK ja_nil) (jg_nm nd))
 (jb_cons (js_asg (je_callK c_placed_steps tk hr (ja_cons je_varR ja_nil)) (jg_nm nd))
 (jb_cons (js_for po (ji_e (je_callR c_placed_steps tk hr (ja_cons je_varR ja_nil))) (fun _ _ => (jg_tup (jgs_cons (jg_nm nd) (jgs_cons (jg_nm nd) jgs_nil)))) (fun _ _ => (jb_cons (js_ex (je_extend (pv 2) (ja_cons (je_lcR [("there", 6), ("second", 7)] nd (ji_e je_varR) (fun _ _ _ _ _ _ _ => (jg_tup (jgs_cons (jg_nm nd) (jgs_cons (jg_nm nd) jgs_nil)))) (fun _ _ _ _ _ _ _ => (jc_yes (jt_fin (je_callR c_steps_clash takes0 hr (ja_cons je_varR (ja_cons je_varR ja_nil)))))) (fun _ _ _ _ _ _ _ => (je_tupK (ja_cons je_varK (ja_cons je_varK ja_nil))))) ja_nil)))
 jb_nil)))
 (jb_cons (js_ret (je_biK .tuple hu z_tuple (ja_cons je_varR ja_nil)))
 jb_nil))))
theorem w_law_pool (F : Fun K "_law_pool" "_law_pool" s_law_pool f fd)  (z_int : mg "int" = none) : FnOk P w K mg base (L2.CX P w) (k + 1) f fd ["script"] (spF K 1 (callF T wf (k + 1) 12)) :=
 fn_ok F sc_law_pool rfl rfl rfl fun X args σ0 W cdv A outer s H E hX hr tk po => by
  subst hX
  have hu := hu_ok hr
  have nd := sc_law_pool.nd
  exact (jb_cons (js_asg (je_lstK (ja_cons je_intK (ja_cons je_intK (ja_cons je_intK ja_nil)))) (jg_nm nd))
 (jb_cons (js_for po (ji_e (je_slR je_varR jo_no (jo_yes je_intR))) (fun _ _ => (jg_nm nd)) (fun _ _ => (jb_cons (js_asg (je_binK (o := .mod) (je_biR .int hu z_int (ja_cons je_varR ja_nil)) (je_binR (o := .pow) je_intR je_intR)) (jg_nm nd))
 (jb_cons (js_asg (je_cmpK (o := .ge) hu je_varR (je_binR (o := .pow) je_intR je_intR)) (jg_nm nd))
 (jb_cons (js_asg (je_binK (o := .mod) (je_binR (o := .add) (je_binR (o := .add) (je_binR (o := .mul) je_varR je_intR) (je_binR (o := .mul) (je_ixR hu je_varR je_intR) je_intR)) je_intR) je_intR) (jg_nm nd))
 (jb_cons (js_asg (je_binK (o := .mod) (je_binR (o := .mul) je_varR je_varR) je_intR) (jg_nm nd))
 (jb_cons (js_sub hu (pv 1) je_intR (je_binK (o := .add) (je_ixR hu je_varR je_intR) je_intR))
 (jb_cons (js_sub hu (pv 1) je_intR (je_binK (o := .mod) (je_binR (o := .add) (je_binR (o := .mul) (je_ixR hu je_varR je_intR) je_intR) je_varR) je_intR))
 (jb_cons (js_sub hu (pv 1) je_intR (je_iteK (jt_fin je_varR) (je_binK (o := .add) (je_binR (o := .mul) (je_ixR hu je_varR je_intR) (je_binR (o := .pow) je_intR je_intR)) je_varR) (je_binK (o := .add) (je_binR (o := .mul) (je_ixR hu je_varR je_intR) je_intR) je_varR)))
 jb_nil)))))))))
 (jb_cons (js_retV (pv 1))
 jb_nil)))
theorem w_law_draw (F : Fun K "_law_draw" "_law_draw" s_law_draw f fd)  (z_int : mg "int" = none) : FnOk P w K mg base (L2.CX P w) (k + 1) f fd ["pool", "many"] (spF K 2 (callF T wf (k + 1) 13)) :=
 fn_ok F sc_law_draw rfl rfl rfl fun X args σ0 W cdv A outer s H E hX hr tk po => by
  subst hX
  have hu := hu_ok hr
  have nd := sc_law_draw.nd
  exact (jb_cons (js_if (jt_cmp (o := .lt) hu (je_ixR hu je_varR je_intR) je_varR) (jb_cons (js_sub hu (pv 0) je_intR (je_binK (o := .add) (je_ixR hu je_varR je_intR) je_intR))
 (jb_cons (js_sub hu (pv 0) je_intR (je_binK (o := .mod) (je_binR (o := .add) (je_binR (o := .mul) (je_ixR hu je_varR je_intR) je_intR) (je_binR (o := .mul) (je_ixR hu je_varR je_intR) je_intR)) je_intR))
 (jb_cons (js_sub hu (pv 0) je_intR (je_binK (o := .fdiv) (je_binR (o := .mul) (je_ixR hu je_varR je_intR) (je_ixR hu je_varR je_intR)) je_intR))
 jb_nil))) jb_nil)
 (jb_cons (js_asg (je_binK (o := .mod) (je_biR .int hu z_int (ja_cons (je_ixR hu je_varR je_intR) ja_nil)) je_varR) (jg_nm nd))
 (jb_cons (js_sub hu (pv 0) je_intR (je_binK (o := .fdiv) (je_ixR hu je_varR je_intR) je_varR))
 (jb_cons (js_retV (pv 2))
 jb_nil))))
theorem w_law_order (F : Fun K "_law_order" "_law_order" s_law_order f fd) (c_law_draw : Cee P w K mg base (callF T wf k 13) "_law_draw" 2 k) (z_range : mg "range" = none) (z_len : mg "len" = none) (z_list : mg "list" = none) : FnOk P w K mg base (L2.CX P w) (k + 1) f fd ["pool", "things"] (spF K 2 (callF T wf (k + 1) 14)) :=
 fn_ok F sc_law_order rfl rfl rfl fun X args σ0 W cdv A outer s H E hX hr tk po => by
  subst hX
  have hu := hu_ok hr
  have nd := sc_law_order.nd
  exact (jb_cons (js_asg (je_biK .list hu z_list (ja_cons je_varR ja_nil)) (jg_nm nd))
 (jb_cons (js_asg (je_lstK ja_nil) (jg_nm nd))
 (jb_cons (js_for po (ji_rng1 z_range (ja_cons (je_biR .len hu z_len (ja_cons je_varR ja_nil)) ja_nil)) (fun _ _ => (jg_nm nd)) (fun _ _ => (jb_cons (js_asg (je_callK c_law_draw tk hr (ja_cons je_varR (ja_cons (je_biR .len hu z_len (ja_cons je_varR ja_nil)) ja_nil))) (jg_nm nd))
 (jb_cons (js_ex (je_append (pv 3) (ja_cons (je_ixK hu je_varR je_varR) ja_nil)))
 (jb_cons (js_asg (je_binK (o := .add) (je_slR je_varR jo_no (jo_yes je_varR)) (je_slR je_varR (jo_yes (je_binR (o := .add) je_varR je_intR)) jo_no)) (jg_nm nd))
 jb_nil)))))
 (jb_cons (js_retV (pv 3))
 jb_nil))))
theorem w_law_word (F : Fun K "_law_word" "_law_word" s_law_word f fd) (c_law_draw : Cee P w K mg base (callF T wf k 13) "_law_draw" 2 k) (z_range : mg "range" = none) (z_len : mg "len" = none) : FnOk P w K mg base (L2.CX P w) (k + 1) f fd ["pool", "signs", "least", "most"] (spF K 4 (callF T wf (k + 1) 15)) :=
 fn_ok F sc_law_word rfl rfl rfl fun X args σ0 W cdv A outer s H E hX hr tk po => by
  subst hX
  have hu := hu_ok hr
  have nd := sc_law_word.nd
  exact (jb_cons (js_asg (je_binK (o := .add) je_varR (je_callR c_law_draw tk hr (ja_cons je_varR (ja_cons (je_binR (o := .add) (je_binR (o := .sub) je_varR je_varR) je_intR) ja_nil)))) (jg_nm nd))
 (jb_cons (js_ret (je_joinK je_strR (je_lcR [("at", 5)] nd (ji_rng1 z_range (ja_cons je_varR ja_nil)) (fun _ _ _ _ _ _ _ => (jg_nm nd)) (fun _ _ _ _ _ _ _ => jc_no) (fun _ _ _ _ _ _ _ => (je_ixK hu je_varR (je_callR c_law_draw takes0 hr (ja_cons je_varR (ja_cons (je_biR .len hu z_len (ja_cons je_varR ja_nil)) ja_nil))))))))
 jb_nil))
theorem w_law_column (F : Fun K "_law_column" "_law_column" s_law_column f fd) (c_law_draw : Cee P w K mg base (callF T wf k 13) "_law_draw" 2 k) (c_law_word : Cee P w K mg base (callF T wf k 15) "_law_word" 4 k)  : FnOk P w K mg base (L2.CX P w) (k + 1) f fd ["pool"] (spF K 1 (callF T wf (k + 1) 16)) :=
 fn_ok F sc_law_column rfl rfl rfl fun X args σ0 W cdv A outer s H E hX hr tk po => by
  subst hX
  have hu := hu_ok hr
  have nd := sc_law_column.nd
  exact (jb_cons (js_asg je_strK (jg_nm nd))
 (jb_cons (js_asg (je_binK (o := .add) je_varR je_strR) (jg_nm nd))
 (jb_cons (js_ret (je_binK (o := .add) (je_ixR hu je_varR (je_callR c_law_draw tk hr (ja_cons je_varR (ja_cons je_intR ja_nil)))) (je_callR c_law_word tk hr (ja_cons je_varR (ja_cons je_varR (ja_cons je_intR (ja_cons (je_ixR hu (je_tupR (ja_cons je_intK (ja_cons je_intK (ja_cons je_intK ja_nil)))) (je_callR c_law_draw tk hr (ja_cons je_varR (ja_cons je_intR ja_nil)))) ja_nil)))))))
 jb_nil)))
theorem w_law_slots (F : Fun K "_law_slots" "_law_slots" s_law_slots f fd) (c_law_order : Cee P w K mg base (callF T wf k 14) "_law_order" 2 k) (c_law_draw : Cee P w K mg base (callF T wf k 13) "_law_draw" 2 k) (c_law_word : Cee P w K mg base (callF T wf k 15) "_law_word" 4 k) (c_law_column : Cee P w K mg base (callF T wf k 16) "_law_column" 1 k) (z_range : mg "range" = none) : FnOk P w K mg base (L2.CX P w) (k + 1) f fd ["pool", "many"] (spF K 2 (callF T wf (k + 1) 17)) :=
 fn_ok F sc_law_slots rfl rfl rfl fun X args σ0 W cdv A outer s H E hX hr tk po => by
  subst hX
  have hu := hu_ok hr
  have nd := sc_law_slots.nd
  exact (jb_cons (js_asg (je_callK c_law_column tk hr (ja_cons je_varR ja_nil)) (jg_nm nd))
 (jb_cons (js_asg (je_binK (o := .add) (je_ixR hu je_strR (je_cmpR (o := .eq) hu (je_ixR hu je_varR je_intR) je_strR)) (je_callR c_law_word tk hr (ja_cons je_varR (ja_cons je_strR (ja_cons je_intR (ja_cons je_intR ja_nil)))))) (jg_nm nd))
 (jb_cons (js_asg (je_callK c_law_word tk hr (ja_cons je_varR (ja_cons je_strR (ja_cons je_intR (ja_cons je_intR ja_nil))))) (jg_nm nd))
 (jb_cons (js_asg (je_callK c_law_draw tk hr (ja_cons je_varR (ja_cons je_intR ja_nil))) (jg_nm nd))
 (jb_cons (js_lc [("at", 8)] nd (ji_rng1 z_range (ja_cons je_intR ja_nil)) (fun _ _ _ _ _ _ _ => (jg_nm nd)) (fun _ _ _ _ _ _ _ => jc_no) (fun _ _ _ _ _ _ _ => (je_binK (o := .add) je_varR (je_ixR hu je_strR (je_binR (o := .add) je_varR je_varR)))))
 (jb_cons (js_if (jt_cmp (o := .eq) hu je_varR je_varR) (jb_cons (js_asg je_strK (jg_nm nd))
 jb_nil) jb_nil)
 (jb_cons (js_asg (je_binK (o := .add) (je_lcR [("row", 9)] nd (ji_e je_varR) (fun _ _ _ _ _ _ _ => (jg_nm nd)) (fun _ _ _ _ _ _ _ => jc_no) (fun _ _ _ _ _ _ _ => (je_tupK (ja_cons je_varK (ja_cons je_varK ja_nil))))) (je_lcR [("row", 9)] nd (ji_e je_varR) (fun _ _ _ _ _ _ _ => (jg_nm nd)) (fun _ _ _ _ _ _ _ => jc_no) (fun _ _ _ _ _ _ _ => (je_tupK (ja_cons je_varK (ja_cons je_varK ja_nil)))))) (jg_nm nd))
 (jb_cons (js_ret (je_slK (je_callR c_law_order tk hr (ja_cons je_varR (ja_cons je_varR ja_nil))) jo_no (jo_yes je_varR)))
 jb_nil))))))))
theorem w_law_statement (F : Fun K "_law_statement" "_law_statement" s_law_statement f fd) (c_law_draw : Cee P w K mg base (callF T wf k 13) "_law_draw" 2 k) (z_tuple : mg "tuple" = none) (z_range : mg "range" = none) (z_len : mg "len" = none) : FnOk P w K mg base (L2.CX P w) (k + 1) f fd ["pool", "slots", "most"] (spF K 3 (callF T wf (k + 1) 18)) :=
 fn_ok F sc_law_statement rfl rfl rfl fun X args σ0 W cdv A outer s H E hX hr tk po => by
  subst hX
  have hu := hu_ok hr
  have nd := sc_law_statement.nd
  exact (jb_cons (js_asg (je_lstK ja_nil) (jg_nm nd))
 (jb_cons (js_for po (ji_rng1 z_range (ja_cons (je_binR (o := .add) je_intR (je_callR c_law_draw tk hr (ja_cons je_varR (ja_cons je_varR ja_nil)))) ja_nil)) (fun _ _ => (jg_nm nd)) (fun _ _ => (jb_cons (js_asg (je_ixK hu (je_tupR (ja_cons je_strK (ja_cons je_strK (ja_cons je_strK (ja_cons je_strK ja_nil))))) (je_callR c_law_draw tk hr (ja_cons je_varR (ja_cons je_intR ja_nil)))) (jg_nm nd))
 (jb_cons (js_asg (je_ixK hu je_varR (je_callR c_law_draw tk hr (ja_cons je_varR (ja_cons (je_biR .len hu z_len (ja_cons je_varR ja_nil)) ja_nil)))) (jg_nm nd))
 (jb_cons (js_asg (je_iteK (jt_cmp (o := .eq) hu je_varR je_strR) je_strK (je_iteK (jt_cmp (o := .eq) hu je_varR je_strR) je_strK je_varK)) (jg_nm nd))
 (jb_cons (js_if (JW.pt (jw_and (jt_cmp (o := .notIn) hu (je_binR (o := .add) (je_tupR (ja_cons je_varK ja_nil)) je_varR) je_varR) (jw_and1 (jt_cmp (o := .notIn) hu (je_binR (o := .add) (je_tupR (ja_cons je_varK ja_nil)) je_varR) je_varR)))) (jb_cons (js_ex (je_append (pv 3) (ja_cons (je_binK (o := .add) (je_tupR (ja_cons je_varK ja_nil)) je_varR) ja_nil)))
 jb_nil) jb_nil)
 jb_nil))))))
 (jb_cons (js_ret (je_biK .tuple hu z_tuple (ja_cons je_varR ja_nil)))
 jb_nil)))
theorem w_law_deal (F : Fun K "_law_deal" "_law_deal" s_law_deal f fd) (c_law_draw : Cee P w K mg base (callF T wf k 13) "_law_draw" 2 k) (c_law_statement : Cee P w K mg base (callF T wf k 18) "_law_statement" 3 k) (z_tuple : mg "tuple" = none) (z_range : mg "range" = none) : FnOk P w K mg base (L2.CX P w) (k + 1) f fd ["pool", "slots", "pieces", "most", "wide"] (spF K 5 (callF T wf (k + 1) 19)) :=
 fn_ok F sc_law_deal rfl rfl rfl fun X args σ0 W cdv A outer s H E hX hr tk po => by
  subst hX
  have hu := hu_ok hr
  have nd := sc_law_deal.nd
  exact (jb_cons (js_asg (je_lstK ja_nil) (jg_nm nd))
 (jb_cons (js_for po (ji_rng1 z_range (ja_cons (je_binR (o := .add) je_intR (je_callR c_law_draw tk hr (ja_cons je_varR (ja_cons je_varR ja_nil)))) ja_nil)) (fun _ _ => (jg_nm nd)) (fun _ _ => (jb_cons (js_lc [("at", 8)] nd (ji_rng1 z_range (ja_cons (je_binR (o := .add) je_intR (je_callR c_law_draw tk hr (ja_cons je_varR (ja_cons je_varR ja_nil)))) ja_nil)) (fun _ _ _ _ _ _ _ => (jg_nm nd)) (fun _ _ _ _ _ _ _ => jc_no) (fun _ _ _ _ _ _ _ => (je_callK c_law_statement takes0 hr (ja_cons je_varR (ja_cons je_varR (ja_cons je_varR ja_nil))))))
 (jb_cons (js_ex (je_append (pv 5) (ja_cons (je_tupK (ja_cons (je_ixK hu (je_tupR (ja_cons je_strK (ja_cons je_strK ja_nil))) (je_callR c_law_draw tk hr (ja_cons je_varR (ja_cons je_intR ja_nil)))) (ja_cons (je_biK .tuple hu z_tuple (ja_cons je_varR ja_nil)) ja_nil))) ja_nil)))
 jb_nil))))
 (jb_cons (js_ret (je_biK .tuple hu z_tuple (ja_cons je_varR ja_nil)))
 jb_nil)))
theorem w_law_same (F : Fun K "_law_same" "_law_same" s_law_same f fd) (c_law_same : Cee P w K mg base (callF T wf k 20) "_law_same" 2 k) (z_range : mg "range" = none) (z_len : mg "len" = none) (z_isinstance : mg "isinstance" = none) (z_tuple : mg "tuple" = none) (z_int : mg "int" = none) (z_bool : mg "bool" = none) : FnOk P w K mg base (L2.CX P w) (k + 1) f fd ["told", "due"] (spF K 2 (callF T wf (k + 1) 20)) :=
 fn_ok F sc_law_same rfl rfl rfl fun X args σ0 W cdv A outer s H E hX hr tk po => by
  subst hX
  have hu := hu_ok hr
  have nd := sc_law_same.nd
  exact (jb_cons (js_if (jt_fin (je_isiR .int z_isinstance z_int je_varR)) (jb_cons (js_ret (je_andK (je_isiK .int z_isinstance z_int je_varR) (je_andK (je_notK (je_isiR .bool z_isinstance z_bool je_varR)) (je_and1 (je_cmpK (o := .eq) hu je_varR je_varR)))))
 jb_nil) jb_nil)
 (jb_cons (js_if (JW.pt (jw_or (jt_not (jt_fin (je_isiR .tuple z_isinstance z_tuple je_varR))) (jw_or1 (jt_cmp (o := .ne) hu (je_biR .len hu z_len (ja_cons je_varR ja_nil)) (je_biR .len hu z_len (ja_cons je_varR ja_nil)))))) (jb_cons (js_ret je_blK)
 jb_nil) jb_nil)
 (jb_cons (js_for po (ji_rng1 z_range (ja_cons (je_biR .len hu z_len (ja_cons je_varR ja_nil)) ja_nil)) (fun _ _ => (jg_nm nd)) (fun _ _ => (jb_cons (js_if (jt_not (jt_fin (je_callR c_law_same tk hr (ja_cons (je_ixR hu je_varR je_varR) (ja_cons (je_ixR hu je_varR je_varR) ja_nil))))) (jb_cons (js_ret je_blK)
 jb_nil) jb_nil)
 jb_nil)))
 (jb_cons (js_ret je_blK)
 jb_nil))))
theorem w_law_steps (F : Fun K "_law_steps" "_law_steps" s_law_steps f fd)  (z_range : mg "range" = none) (z_len : mg "len" = none) : FnOk P w K mg base (L2.CX P w) (k + 1) f fd ["deal"] (spF K 1 (callF T wf (k + 1) 21)) :=
 fn_ok F sc_law_steps rfl rfl rfl fun X args σ0 W cdv A outer s H E hX hr tk po => by
  subst hX
  have hu := hu_ok hr
  have nd := sc_law_steps.nd
  exact (jb_cons (js_asg (je_lstK ja_nil) (jg_nm nd))
 (jb_cons (js_for po (ji_rng1 z_range (ja_cons (je_biR .len hu z_len (ja_cons je_varR ja_nil)) ja_nil)) (fun _ _ => (jg_nm nd)) (fun _ _ => (jb_cons (js_asg (je_lstK ja_nil) (jg_nm nd))
 (jb_cons (js_for po (ji_rng1 z_range (ja_cons (je_biR .len hu z_len (ja_cons (je_ixR hu (je_ixR hu je_varR je_varR) je_intR) ja_nil)) ja_nil)) (fun _ _ => (jg_nm nd)) (fun _ _ => (jb_cons (js_asg (je_ixK hu (je_ixR hu (je_ixR hu je_varR je_varR) je_intR) je_varR) (jg_nm nd))
 (jb_cons (js_for po (ji_rng1 z_range (ja_cons (je_biR .len hu z_len (ja_cons je_varR ja_nil)) ja_nil)) (fun _ _ => (jg_nm nd)) (fun _ _ => (jb_cons (js_asg (je_andK (je_cmpK (o := .isIn) hu (je_ixR hu (je_ixR hu je_varR je_varR) je_intR) (je_tupR (ja_cons je_strK (ja_cons je_strK ja_nil)))) (je_and1 (je_cmpK (o := .isIn) hu (je_slR (je_ixR hu je_varR je_varR) (jo_yes je_intR) jo_no) je_varR))) (jg_nm nd))
 (jb_cons (js_ex (je_append (pv 1) (ja_cons (je_tupK (ja_cons (je_tupK (ja_cons je_varK (ja_cons je_varK (ja_cons je_varK ja_nil)))) (ja_cons (je_ixK hu je_varR je_varR) (ja_cons je_varK ja_nil)))) ja_nil)))
 jb_nil))))
 (jb_cons (js_ex (je_extend (pv 3) (ja_cons (je_lcR [("step", 8)] nd (ji_e je_varR) (fun _ _ _ _ _ _ _ => (jg_nm nd)) (fun _ _ _ _ _ _ _ => (jc_yes (jt_cmp (o := .eq) hu (je_ixR hu je_varR je_intR) je_strR))) (fun _ _ _ _ _ _ _ => (je_slK je_varR (jo_yes je_intR) jo_no))) ja_nil)))
 jb_nil)))))
 jb_nil))))
 (jb_cons (js_retV (pv 1))
 jb_nil)))
theorem w_law_clash (F : Fun K "_law_clash" "_law_clash" s_law_clash f fd)  (z_sorted : mg "sorted" = none) : FnOk P w K mg base (L2.CX P w) (k + 1) f fd ["one", "other"] (spF K 2 (callF T wf (k + 1) 22)) :=
 fn_ok F sc_law_clash rfl rfl rfl fun X args σ0 W cdv A outer s H E hX hr tk po => by
  subst hX
  have hu := hu_ok hr
  have nd := sc_law_clash.nd
  exact (jb_cons (js_asg (je_biK .sorted hu z_sorted (ja_cons (je_lstR (ja_cons je_varK (ja_cons je_varK ja_nil))) ja_nil)) (jg_nm nd))
 (jb_cons (js_ret (je_cmpK (o := .isIn) hu je_varR (je_lstR (ja_cons (je_lstK (ja_cons je_strK (ja_cons je_strK ja_nil))) (ja_cons (je_lstK (ja_cons je_strK (ja_cons je_strK ja_nil))) (ja_cons (je_lstK (ja_cons je_strK (ja_cons je_strK ja_nil))) (ja_cons (je_lstK (ja_cons je_strK (ja_cons je_strK ja_nil))) ja_nil)))))))
 jb_nil))
theorem w_law_pairs (F : Fun K "_law_pairs" "_law_pairs" s_law_pairs f fd) (c_law_steps : Cee P w K mg base (callF T wf k 21) "_law_steps" 1 k) (c_law_clash : Cee P w K mg base (callF T wf k 22) "_law_clash" 2 k) (z_tuple : mg "tuple" = none) (z_sorted : mg "sorted" = none) : FnOk P w K mg base (L2.CX P w) (k + 1) f fd ["one", "other", "meet"] (spF K 3 (callF T wf (k + 1) 23)) :=
 fn_ok F sc_law_pairs rfl rfl rfl fun X args σ0 W cdv A outer s H E hX hr tk po => by
  subst hX
  have hu := hu_ok hr
  have nd := sc_law_pairs.nd
  exact (jb_cons (js_asg (je_lstK ja_nil) (jg_nm nd))
 (jb_cons (js_for po (ji_e (je_callR c_law_steps tk hr (ja_cons je_varR ja_nil))) (fun _ _ => (jg_tup (jgs_cons (jg_nm nd) (jgs_cons (jg_nm nd) (jgs_cons (jg_nm nd) jgs_nil))))) (fun _ _ => (jb_cons (js_for po (ji_e (je_callR c_law_steps tk hr (ja_cons je_varR ja_nil))) (fun _ _ => (jg_tup (jgs_cons (jg_nm nd) (jgs_cons (jg_nm nd) (jgs_cons (jg_nm nd) jgs_nil))))) (fun _ _ => (jb_cons (js_if (jt_cmp (o := .eq) hu (je_slR je_varR (jo_yes je_intR) jo_no) (je_slR je_varR (jo_yes je_intR) jo_no)) (jb_cons (js_asg (je_biK .sorted hu z_sorted (ja_cons (je_lstR (ja_cons (je_ixK hu je_varR je_intR) (ja_cons (je_ixK hu je_varR je_intR) ja_nil))) ja_nil)) (jg_nm nd))
 (jb_cons (js_if (JW.pt (jw_and (jt_fin (je_callR c_law_clash tk hr (ja_cons (je_ixR hu je_varR je_intR) (ja_cons (je_ixR hu je_varR je_intR) ja_nil)))) (jw_and1 (jt_not (JW.pt (jw_and (jt_fin je_varR) (jw_and1 (JW.pt (jw_or (jt_fin je_varR) (jw_or1 (jt_fin je_varR))))))))))) (jb_cons (js_ex (je_append (pv 3) (ja_cons (je_tupK (ja_cons je_varK (ja_cons je_varK ja_nil))) ja_nil)))
 jb_nil) (jb_cons (js_if (JW.pt (jw_and (jt_fin je_varR) (jw_and (jt_not (jt_fin je_varR)) (jw_and (jt_not (jt_fin je_varR)) (jw_and1 (jt_cmp (o := .isIn) hu je_varR (je_lstR (ja_cons (je_lstK (ja_cons je_strK (ja_cons je_strK ja_nil))) (ja_cons (je_lstK (ja_cons je_strK (ja_cons je_strK ja_nil))) ja_nil))))))))) (jb_cons (js_ex (je_append (pv 3) (ja_cons (je_tupK (ja_cons je_varK (ja_cons je_varK ja_nil))) ja_nil)))
 jb_nil) jb_nil)
 jb_nil))
 jb_nil)) jb_nil)
 jb_nil)))
 jb_nil)))
 (jb_cons (js_ret (je_biK .tuple hu z_tuple (ja_cons (je_biR .sorted hu z_sorted (ja_cons je_varR ja_nil)) ja_nil)))
 jb_nil)))
theorem w_law_mixed (F : Fun K "_law_mixed" "_law_mixed" s_law_mixed f fd) (c_law_draw : Cee P w K mg base (callF T wf k 13) "_law_draw" 2 k) (z_tuple : mg "tuple" = none) (z_range : mg "range" = none) : FnOk P w K mg base (L2.CX P w) (k + 1) f fd ["pool", "slots"] (spF K 2 (callF T wf (k + 1) 24)) :=
 fn_ok F sc_law_mixed rfl rfl rfl fun X args σ0 W cdv A outer s H E hX hr tk po => by
  subst hX
  have hu := hu_ok hr
  have nd := sc_law_mixed.nd
  exact (jb_cons (js_asg (je_lstK ja_nil) (jg_nm nd))
 (jb_cons (js_for po (ji_rng1 z_range (ja_cons je_intR ja_nil)) (fun _ _ => (jg_nm nd)) (fun _ _ => (jb_cons (js_asg (je_ixK hu (je_tupR (ja_cons je_strK (ja_cons je_strK (ja_cons je_strK (ja_cons je_strK ja_nil))))) (je_callR c_law_draw tk hr (ja_cons je_varR (ja_cons je_intR ja_nil)))) (jg_nm nd))
 (jb_cons (js_ex (je_append (pv 2) (ja_cons (je_tupK (ja_cons (je_binK (o := .add) (je_tupR (ja_cons je_varK ja_nil)) (je_ixR hu je_varR (je_callR c_law_draw tk hr (ja_cons je_varR (ja_cons je_intR ja_nil))))) ja_nil)) ja_nil)))
 jb_nil))))
 (jb_cons (js_asg (je_binK (o := .add) (je_tupR (ja_cons (je_ixK hu (je_tupR (ja_cons je_strK (ja_cons je_strK ja_nil))) (je_callR c_law_draw tk hr (ja_cons je_varR (ja_cons je_intR ja_nil)))) ja_nil)) (je_ixR hu je_varR je_intR)) (jg_nm nd))
 (jb_cons (js_ex (je_insertK (pv 2) (ja_cons (je_callK c_law_draw tk hr (ja_cons je_varR (ja_cons je_intR ja_nil))) (ja_cons (je_tupK (ja_cons (je_binK (o := .add) (je_tupR (ja_cons je_strK ja_nil)) (je_ixR hu je_varR je_intR)) (ja_cons je_varK ja_nil))) ja_nil))))
 (jb_cons (js_ex (je_append (pv 2) (ja_cons (je_tupK (ja_cons je_varK ja_nil)) ja_nil)))
 (jb_cons (js_asg (je_callK c_law_draw tk hr (ja_cons je_varR (ja_cons je_intR ja_nil))) (jg_nm nd))
 (jb_cons (js_asg (je_iteK (jt_cmp2 (o := .lt) (o' := .lt) hu je_intR je_varR je_intR) (je_lstK (ja_cons (je_frzK (je_slK je_varR jo_no (jo_yes je_varR))) (ja_cons (je_frzK (je_slK je_varR (jo_yes je_varR) jo_no)) ja_nil))) (je_lstK (ja_cons je_varK ja_nil))) (jg_nm nd))
 (jb_cons (js_ret (je_biK .tuple hu z_tuple (ja_cons (je_lcR [("piece", 8)] nd (ji_e je_varR) (fun _ _ _ _ _ _ _ => (jg_nm nd)) (fun _ _ _ _ _ _ _ => jc_no) (fun _ _ _ _ _ _ _ => (je_tupK (ja_cons (je_ixK hu (je_tupR (ja_cons je_strK (ja_cons je_strK ja_nil))) (je_callR c_law_draw takes0 hr (ja_cons je_varR (ja_cons je_intR ja_nil)))) (ja_cons (je_biK .tuple hu z_tuple (ja_cons je_varR ja_nil)) ja_nil))))) ja_nil)))
 jb_nil))))))))
theorem w_law (F : Fun K "law" "law" s_law f fd) (c_law_same : Cee P w K mg base (callF T wf k 20) "_law_same" 2 k) (c_law_pairs : Cee P w K mg base (callF T wf k 23) "_law_pairs" 3 k) (c_meetings_of : Cee P w K mg base (callF T wf k 10) "meetings_of" 2 k) (c_clashes_of : Cee P w K mg base (callF T wf k 11) "clashes_of" 2 k) (c_law_steps : Cee P w K mg base (callF T wf k 21) "_law_steps" 1 k) (c_is_own : Cee P w K mg base (callF T wf k 5) "is_own" 2 k) (c_law_deal : Cee P w K mg base (callF T wf k 19) "_law_deal" 5 k) (c_law_draw : Cee P w K mg base (callF T wf k 13) "_law_draw" 2 k) (c_law_mixed : Cee P w K mg base (callF T wf k 24) "_law_mixed" 2 k) (c_law_slots : Cee P w K mg base (callF T wf k 17) "_law_slots" 2 k) (c_law_pool : Cee P w K mg base (callF T wf k 12) "_law_pool" 1 k) (z_isinstance : mg "isinstance" = none) (z_bool : mg "bool" = none) (z_range : mg "range" = none) : FnOk P w K mg base (L2.CX P w) (k + 1) f fd ["script"] (spF K 1 (callF T wf (k + 1) 25)) :=
 fn_ok F sc_law rfl rfl rfl fun X args σ0 W cdv A outer s H E hX hr tk po => by
  subst hX
  have hu := hu_ok hr
  have nd := sc_law.nd
  exact (jb_cons (js_asg (je_callK c_law_pool tk hr (ja_cons je_varR ja_nil)) (jg_nm nd))
 (jb_cons (js_asg (je_callK c_law_slots tk hr (ja_cons je_varR (ja_cons je_intR ja_nil))) (jg_nm nd))
 (jb_cons (js_asg (je_lstK (ja_cons (je_callK c_law_mixed tk hr (ja_cons je_varR (ja_cons je_varR ja_nil))) (ja_cons (je_callK c_law_mixed tk hr (ja_cons je_varR (ja_cons je_varR ja_nil))) ja_nil))) (jg_nm nd))
 (jb_cons (js_asg (je_slK je_varR jo_no (jo_yes (je_binR (o := .add) je_intR (je_callR c_law_draw tk hr (ja_cons je_varR (ja_cons je_intR ja_nil)))))) (jg_nm nd))
 (jb_cons (js_for po (ji_rng1 z_range (ja_cons je_intR ja_nil)) (fun _ _ => (jg_nm nd)) (fun _ _ => (jb_cons (js_ex (je_append (pv 3) (ja_cons (je_callK c_law_deal tk hr (ja_cons je_varR (ja_cons je_varR (ja_cons je_intR (ja_cons je_intR (ja_cons je_intR ja_nil)))))) ja_nil)))
 jb_nil)))
 (jb_cons (js_ex (je_append (pv 3) (ja_cons (je_callK c_law_deal tk hr (ja_cons je_varR (ja_cons je_varR (ja_cons je_intR (ja_cons je_intR (ja_cons je_intR ja_nil)))))) ja_nil)))
 (jb_cons (js_for po (ji_e je_varR) (fun _ _ => (jg_nm nd)) (fun _ _ => (jb_cons (js_for po (ji_e (je_callR c_law_steps tk hr (ja_cons je_varR ja_nil))) (fun _ _ => (jg_tup (jgs_cons (jg_nm nd) (jgs_cons (jg_nm nd) (jgs_cons (jg_nm nd) jgs_nil))))) (fun _ _ => (jb_cons (js_asg (je_callK c_is_own tk hr (ja_cons je_varR (ja_cons je_varR ja_nil))) (jg_nm nd))
 (jb_cons (js_if (JW.pt (jw_or (jt_not (jt_fin (je_isiR .bool z_isinstance z_bool je_varR))) (jw_or1 (jt_cmp (o := .ne) hu je_varR je_varR)))) (jb_cons (js_ret je_blK)
 jb_nil) jb_nil)
 jb_nil))))
 jb_nil)))
 (jb_cons (js_for po (ji_e (je_tupR (ja_cons (je_tupK (ja_cons je_intK (ja_cons je_intK ja_nil))) (ja_cons (je_tupK (ja_cons je_intK (ja_cons je_intK ja_nil))) (ja_cons (je_tupK (ja_cons je_intK (ja_cons je_intK ja_nil))) (ja_cons (je_tupK (ja_cons je_intK (ja_cons je_intK ja_nil))) (ja_cons (je_tupK (ja_cons je_intK (ja_cons je_intK ja_nil))) (ja_cons (je_tupK (ja_cons je_intK (ja_cons je_intK ja_nil))) ja_nil)))))))) (fun _ _ => (jg_tup (jgs_cons (jg_nm nd) (jgs_cons (jg_nm nd) jgs_nil)))) (fun _ _ => (jb_cons (js_if (jt_not (jt_fin (je_callR c_law_same tk hr (ja_cons (je_callR c_meetings_of tk hr (ja_cons (je_ixR hu je_varR je_varR) (ja_cons (je_ixR hu je_varR je_varR) ja_nil))) (ja_cons (je_callR c_law_pairs tk hr (ja_cons (je_ixR hu je_varR je_varR) (ja_cons (je_ixR hu je_varR je_varR) (ja_cons je_blR ja_nil)))) ja_nil))))) (jb_cons (js_ret je_blK)
 jb_nil) jb_nil)
 (jb_cons (js_if (jt_not (jt_fin (je_callR c_law_same tk hr (ja_cons (je_callR c_clashes_of tk hr (ja_cons (je_ixR hu je_varR je_varR) (ja_cons (je_ixR hu je_varR je_varR) ja_nil))) (ja_cons (je_callR c_law_pairs tk hr (ja_cons (je_ixR hu je_varR je_varR) (ja_cons (je_ixR hu je_varR je_varR) (ja_cons je_blR ja_nil)))) ja_nil))))) (jb_cons (js_ret je_blK)
 jb_nil) jb_nil)
 jb_nil))))
 (jb_cons (js_asg (je_callK c_meetings_of tk hr (ja_cons (je_ixR hu je_varR je_intR) (ja_cons (je_ixR hu je_varR je_intR) ja_nil))) (jg_nm nd))
 (jb_cons (js_ret (je_callK c_law_same tk hr (ja_cons je_varR (ja_cons (je_callR c_law_pairs tk hr (ja_cons (je_ixR hu je_varR je_intR) (ja_cons (je_ixR hu je_varR je_intR) (ja_cons je_blR ja_nil)))) ja_nil))))
 jb_nil))))))))))
theorem all_mk {l : PySem.W.OpenLaw} {h : Heap} {fa : Addr} (X : K.In h) (G : h.Ns mainGlobals mg) (hfa : mg "law" = some (.ref fa)) (wf : Nat)
  {f0 : Addr} {od0 an0 : Option Addr} {sl0 : Array (Option Value)} {oc0 kV0 dc0 pm0 cd0 ct0 : Value}
  (a0 : PySem.W.nsIn K mainGlobals "is_change" = some (some (.ref f0))) (l0 : K.lookup f0 = some ⟨oc0, od0, .func (PySem.W.fnOf "is_change" "is_change" (defArgs s_is_change) (defBody s_is_change) (defScope s_is_change) .none kV0 dc0 pm0 an0 cd0 ct0), sl0⟩) (e0 : PySem.W.codeIn K cd0 "is_change" = true) (k0 : PySem.W.keepIn K (.ref f0) = true)
  {f1 : Addr} {od1 an1 : Option Addr} {sl1 : Array (Option Value)} {oc1 kV1 dc1 pm1 cd1 ct1 : Value}
  (a1 : PySem.W.nsIn K mainGlobals "kinds_clash" = some (some (.ref f1))) (l1 : K.lookup f1 = some ⟨oc1, od1, .func (PySem.W.fnOf "kinds_clash" "kinds_clash" (defArgs s_kinds_clash) (defBody s_kinds_clash) (defScope s_kinds_clash) .none kV1 dc1 pm1 an1 cd1 ct1), sl1⟩) (e1 : PySem.W.codeIn K cd1 "kinds_clash" = true) (k1 : PySem.W.keepIn K (.ref f1) = true)
  {f2 : Addr} {od2 an2 : Option Addr} {sl2 : Array (Option Value)} {oc2 kV2 dc2 pm2 cd2 ct2 : Value}
  (a2 : PySem.W.nsIn K mainGlobals "kinds_meet" = some (some (.ref f2))) (l2 : K.lookup f2 = some ⟨oc2, od2, .func (PySem.W.fnOf "kinds_meet" "kinds_meet" (defArgs s_kinds_meet) (defBody s_kinds_meet) (defScope s_kinds_meet) .none kV2 dc2 pm2 an2 cd2 ct2), sl2⟩) (e2 : PySem.W.codeIn K cd2 "kinds_meet" = true) (k2 : PySem.W.keepIn K (.ref f2) = true)
  {f3 : Addr} {od3 an3 : Option Addr} {sl3 : Array (Option Value)} {oc3 kV3 dc3 pm3 cd3 ct3 : Value}
  (a3 : PySem.W.nsIn K mainGlobals "places_of" = some (some (.ref f3))) (l3 : K.lookup f3 = some ⟨oc3, od3, .func (PySem.W.fnOf "places_of" "places_of" (defArgs s_places_of) (defBody s_places_of) (defScope s_places_of) .none kV3 dc3 pm3 an3 cd3 ct3), sl3⟩) (e3 : PySem.W.codeIn K cd3 "places_of" = true) (k3 : PySem.W.keepIn K (.ref f3) = true)
  {f4 : Addr} {od4 an4 : Option Addr} {sl4 : Array (Option Value)} {oc4 kV4 dc4 pm4 cd4 ct4 : Value}
  (a4 : PySem.W.nsIn K mainGlobals "step_at" = some (some (.ref f4))) (l4 : K.lookup f4 = some ⟨oc4, od4, .func (PySem.W.fnOf "step_at" "step_at" (defArgs s_step_at) (defBody s_step_at) (defScope s_step_at) .none kV4 dc4 pm4 an4 cd4 ct4), sl4⟩) (e4 : PySem.W.codeIn K cd4 "step_at" = true) (k4 : PySem.W.keepIn K (.ref f4) = true)
  {f5 : Addr} {od5 an5 : Option Addr} {sl5 : Array (Option Value)} {oc5 kV5 dc5 pm5 cd5 ct5 : Value}
  (a5 : PySem.W.nsIn K mainGlobals "is_own" = some (some (.ref f5))) (l5 : K.lookup f5 = some ⟨oc5, od5, .func (PySem.W.fnOf "is_own" "is_own" (defArgs s_is_own) (defBody s_is_own) (defScope s_is_own) .none kV5 dc5 pm5 an5 cd5 ct5), sl5⟩) (e5 : PySem.W.codeIn K cd5 "is_own" = true) (k5 : PySem.W.keepIn K (.ref f5) = true)
  {f6 : Addr} {od6 an6 : Option Addr} {sl6 : Array (Option Value)} {oc6 kV6 dc6 pm6 cd6 ct6 : Value}
  (a6 : PySem.W.nsIn K mainGlobals "placed_steps" = some (some (.ref f6))) (l6 : K.lookup f6 = some ⟨oc6, od6, .func (PySem.W.fnOf "placed_steps" "placed_steps" (defArgs s_placed_steps) (defBody s_placed_steps) (defScope s_placed_steps) .none kV6 dc6 pm6 an6 cd6 ct6), sl6⟩) (e6 : PySem.W.codeIn K cd6 "placed_steps" = true) (k6 : PySem.W.keepIn K (.ref f6) = true)
  {f7 : Addr} {od7 an7 : Option Addr} {sl7 : Array (Option Value)} {oc7 kV7 dc7 pm7 cd7 ct7 : Value}
  (a7 : PySem.W.nsIn K mainGlobals "open_steps" = some (some (.ref f7))) (l7 : K.lookup f7 = some ⟨oc7, od7, .func (PySem.W.fnOf "open_steps" "open_steps" (defArgs s_open_steps) (defBody s_open_steps) (defScope s_open_steps) .none kV7 dc7 pm7 an7 cd7 ct7), sl7⟩) (e7 : PySem.W.codeIn K cd7 "open_steps" = true) (k7 : PySem.W.keepIn K (.ref f7) = true)
  {f8 : Addr} {od8 an8 : Option Addr} {sl8 : Array (Option Value)} {oc8 kV8 dc8 pm8 cd8 ct8 : Value}
  (a8 : PySem.W.nsIn K mainGlobals "steps_meet" = some (some (.ref f8))) (l8 : K.lookup f8 = some ⟨oc8, od8, .func (PySem.W.fnOf "steps_meet" "steps_meet" (defArgs s_steps_meet) (defBody s_steps_meet) (defScope s_steps_meet) .none kV8 dc8 pm8 an8 cd8 ct8), sl8⟩) (e8 : PySem.W.codeIn K cd8 "steps_meet" = true) (k8 : PySem.W.keepIn K (.ref f8) = true)
  {f9 : Addr} {od9 an9 : Option Addr} {sl9 : Array (Option Value)} {oc9 kV9 dc9 pm9 cd9 ct9 : Value}
  (a9 : PySem.W.nsIn K mainGlobals "steps_clash" = some (some (.ref f9))) (l9 : K.lookup f9 = some ⟨oc9, od9, .func (PySem.W.fnOf "steps_clash" "steps_clash" (defArgs s_steps_clash) (defBody s_steps_clash) (defScope s_steps_clash) .none kV9 dc9 pm9 an9 cd9 ct9), sl9⟩) (e9 : PySem.W.codeIn K cd9 "steps_clash" = true) (k9 : PySem.W.keepIn K (.ref f9) = true)
  {f10 : Addr} {od10 an10 : Option Addr} {sl10 : Array (Option Value)} {oc10 kV10 dc10 pm10 cd10 ct10 : Value}
  (a10 : PySem.W.nsIn K mainGlobals "meetings_of" = some (some (.ref f10))) (l10 : K.lookup f10 = some ⟨oc10, od10, .func (PySem.W.fnOf "meetings_of" "meetings_of" (defArgs s_meetings_of) (defBody s_meetings_of) (defScope s_meetings_of) .none kV10 dc10 pm10 an10 cd10 ct10), sl10⟩) (e10 : PySem.W.codeIn K cd10 "meetings_of" = true) (k10 : PySem.W.keepIn K (.ref f10) = true)
  {f11 : Addr} {od11 an11 : Option Addr} {sl11 : Array (Option Value)} {oc11 kV11 dc11 pm11 cd11 ct11 : Value}
  (a11 : PySem.W.nsIn K mainGlobals "clashes_of" = some (some (.ref f11))) (l11 : K.lookup f11 = some ⟨oc11, od11, .func (PySem.W.fnOf "clashes_of" "clashes_of" (defArgs s_clashes_of) (defBody s_clashes_of) (defScope s_clashes_of) .none kV11 dc11 pm11 an11 cd11 ct11), sl11⟩) (e11 : PySem.W.codeIn K cd11 "clashes_of" = true) (k11 : PySem.W.keepIn K (.ref f11) = true)
  {f12 : Addr} {od12 an12 : Option Addr} {sl12 : Array (Option Value)} {oc12 kV12 dc12 pm12 cd12 ct12 : Value}
  (a12 : PySem.W.nsIn K mainGlobals "_law_pool" = some (some (.ref f12))) (l12 : K.lookup f12 = some ⟨oc12, od12, .func (PySem.W.fnOf "_law_pool" "_law_pool" (defArgs s_law_pool) (defBody s_law_pool) (defScope s_law_pool) .none kV12 dc12 pm12 an12 cd12 ct12), sl12⟩) (e12 : PySem.W.codeIn K cd12 "_law_pool" = true) (k12 : PySem.W.keepIn K (.ref f12) = true)
  {f13 : Addr} {od13 an13 : Option Addr} {sl13 : Array (Option Value)} {oc13 kV13 dc13 pm13 cd13 ct13 : Value}
  (a13 : PySem.W.nsIn K mainGlobals "_law_draw" = some (some (.ref f13))) (l13 : K.lookup f13 = some ⟨oc13, od13, .func (PySem.W.fnOf "_law_draw" "_law_draw" (defArgs s_law_draw) (defBody s_law_draw) (defScope s_law_draw) .none kV13 dc13 pm13 an13 cd13 ct13), sl13⟩) (e13 : PySem.W.codeIn K cd13 "_law_draw" = true) (k13 : PySem.W.keepIn K (.ref f13) = true)
  {f14 : Addr} {od14 an14 : Option Addr} {sl14 : Array (Option Value)} {oc14 kV14 dc14 pm14 cd14 ct14 : Value}
  (a14 : PySem.W.nsIn K mainGlobals "_law_order" = some (some (.ref f14))) (l14 : K.lookup f14 = some ⟨oc14, od14, .func (PySem.W.fnOf "_law_order" "_law_order" (defArgs s_law_order) (defBody s_law_order) (defScope s_law_order) .none kV14 dc14 pm14 an14 cd14 ct14), sl14⟩) (e14 : PySem.W.codeIn K cd14 "_law_order" = true) (k14 : PySem.W.keepIn K (.ref f14) = true)
  {f15 : Addr} {od15 an15 : Option Addr} {sl15 : Array (Option Value)} {oc15 kV15 dc15 pm15 cd15 ct15 : Value}
  (a15 : PySem.W.nsIn K mainGlobals "_law_word" = some (some (.ref f15))) (l15 : K.lookup f15 = some ⟨oc15, od15, .func (PySem.W.fnOf "_law_word" "_law_word" (defArgs s_law_word) (defBody s_law_word) (defScope s_law_word) .none kV15 dc15 pm15 an15 cd15 ct15), sl15⟩) (e15 : PySem.W.codeIn K cd15 "_law_word" = true) (k15 : PySem.W.keepIn K (.ref f15) = true)
  {f16 : Addr} {od16 an16 : Option Addr} {sl16 : Array (Option Value)} {oc16 kV16 dc16 pm16 cd16 ct16 : Value}
  (a16 : PySem.W.nsIn K mainGlobals "_law_column" = some (some (.ref f16))) (l16 : K.lookup f16 = some ⟨oc16, od16, .func (PySem.W.fnOf "_law_column" "_law_column" (defArgs s_law_column) (defBody s_law_column) (defScope s_law_column) .none kV16 dc16 pm16 an16 cd16 ct16), sl16⟩) (e16 : PySem.W.codeIn K cd16 "_law_column" = true) (k16 : PySem.W.keepIn K (.ref f16) = true)
  {f17 : Addr} {od17 an17 : Option Addr} {sl17 : Array (Option Value)} {oc17 kV17 dc17 pm17 cd17 ct17 : Value}
  (a17 : PySem.W.nsIn K mainGlobals "_law_slots" = some (some (.ref f17))) (l17 : K.lookup f17 = some ⟨oc17, od17, .func (PySem.W.fnOf "_law_slots" "_law_slots" (defArgs s_law_slots) (defBody s_law_slots) (defScope s_law_slots) .none kV17 dc17 pm17 an17 cd17 ct17), sl17⟩) (e17 : PySem.W.codeIn K cd17 "_law_slots" = true) (k17 : PySem.W.keepIn K (.ref f17) = true)
  {f18 : Addr} {od18 an18 : Option Addr} {sl18 : Array (Option Value)} {oc18 kV18 dc18 pm18 cd18 ct18 : Value}
  (a18 : PySem.W.nsIn K mainGlobals "_law_statement" = some (some (.ref f18))) (l18 : K.lookup f18 = some ⟨oc18, od18, .func (PySem.W.fnOf "_law_statement" "_law_statement" (defArgs s_law_statement) (defBody s_law_statement) (defScope s_law_statement) .none kV18 dc18 pm18 an18 cd18 ct18), sl18⟩) (e18 : PySem.W.codeIn K cd18 "_law_statement" = true) (k18 : PySem.W.keepIn K (.ref f18) = true)
  {f19 : Addr} {od19 an19 : Option Addr} {sl19 : Array (Option Value)} {oc19 kV19 dc19 pm19 cd19 ct19 : Value}
  (a19 : PySem.W.nsIn K mainGlobals "_law_deal" = some (some (.ref f19))) (l19 : K.lookup f19 = some ⟨oc19, od19, .func (PySem.W.fnOf "_law_deal" "_law_deal" (defArgs s_law_deal) (defBody s_law_deal) (defScope s_law_deal) .none kV19 dc19 pm19 an19 cd19 ct19), sl19⟩) (e19 : PySem.W.codeIn K cd19 "_law_deal" = true) (k19 : PySem.W.keepIn K (.ref f19) = true)
  {f20 : Addr} {od20 an20 : Option Addr} {sl20 : Array (Option Value)} {oc20 kV20 dc20 pm20 cd20 ct20 : Value}
  (a20 : PySem.W.nsIn K mainGlobals "_law_same" = some (some (.ref f20))) (l20 : K.lookup f20 = some ⟨oc20, od20, .func (PySem.W.fnOf "_law_same" "_law_same" (defArgs s_law_same) (defBody s_law_same) (defScope s_law_same) .none kV20 dc20 pm20 an20 cd20 ct20), sl20⟩) (e20 : PySem.W.codeIn K cd20 "_law_same" = true) (k20 : PySem.W.keepIn K (.ref f20) = true)
  {f21 : Addr} {od21 an21 : Option Addr} {sl21 : Array (Option Value)} {oc21 kV21 dc21 pm21 cd21 ct21 : Value}
  (a21 : PySem.W.nsIn K mainGlobals "_law_steps" = some (some (.ref f21))) (l21 : K.lookup f21 = some ⟨oc21, od21, .func (PySem.W.fnOf "_law_steps" "_law_steps" (defArgs s_law_steps) (defBody s_law_steps) (defScope s_law_steps) .none kV21 dc21 pm21 an21 cd21 ct21), sl21⟩) (e21 : PySem.W.codeIn K cd21 "_law_steps" = true) (k21 : PySem.W.keepIn K (.ref f21) = true)
  {f22 : Addr} {od22 an22 : Option Addr} {sl22 : Array (Option Value)} {oc22 kV22 dc22 pm22 cd22 ct22 : Value}
  (a22 : PySem.W.nsIn K mainGlobals "_law_clash" = some (some (.ref f22))) (l22 : K.lookup f22 = some ⟨oc22, od22, .func (PySem.W.fnOf "_law_clash" "_law_clash" (defArgs s_law_clash) (defBody s_law_clash) (defScope s_law_clash) .none kV22 dc22 pm22 an22 cd22 ct22), sl22⟩) (e22 : PySem.W.codeIn K cd22 "_law_clash" = true) (k22 : PySem.W.keepIn K (.ref f22) = true)
  {f23 : Addr} {od23 an23 : Option Addr} {sl23 : Array (Option Value)} {oc23 kV23 dc23 pm23 cd23 ct23 : Value}
  (a23 : PySem.W.nsIn K mainGlobals "_law_pairs" = some (some (.ref f23))) (l23 : K.lookup f23 = some ⟨oc23, od23, .func (PySem.W.fnOf "_law_pairs" "_law_pairs" (defArgs s_law_pairs) (defBody s_law_pairs) (defScope s_law_pairs) .none kV23 dc23 pm23 an23 cd23 ct23), sl23⟩) (e23 : PySem.W.codeIn K cd23 "_law_pairs" = true) (k23 : PySem.W.keepIn K (.ref f23) = true)
  {f24 : Addr} {od24 an24 : Option Addr} {sl24 : Array (Option Value)} {oc24 kV24 dc24 pm24 cd24 ct24 : Value}
  (a24 : PySem.W.nsIn K mainGlobals "_law_mixed" = some (some (.ref f24))) (l24 : K.lookup f24 = some ⟨oc24, od24, .func (PySem.W.fnOf "_law_mixed" "_law_mixed" (defArgs s_law_mixed) (defBody s_law_mixed) (defScope s_law_mixed) .none kV24 dc24 pm24 an24 cd24 ct24), sl24⟩) (e24 : PySem.W.codeIn K cd24 "_law_mixed" = true) (k24 : PySem.W.keepIn K (.ref f24) = true)
  {f25 : Addr} {od25 an25 : Option Addr} {sl25 : Array (Option Value)} {oc25 kV25 dc25 pm25 cd25 ct25 : Value}
  (a25 : PySem.W.nsIn K mainGlobals "law" = some (some (.ref f25))) (l25 : K.lookup f25 = some ⟨oc25, od25, .func (PySem.W.fnOf "law" "law" (defArgs s_law) (defBody s_law) (defScope s_law) .none kV25 dc25 pm25 an25 cd25 ct25), sl25⟩) (e25 : PySem.W.codeIn K cd25 "law" = true) (k25 : PySem.W.keepIn K (.ref f25) = true)
  (y_tuple : PySem.W.nsIn K mainGlobals "tuple" = some none)
  (y_enumerate : PySem.W.nsIn K mainGlobals "enumerate" = some none)
  (y_range : PySem.W.nsIn K mainGlobals "range" = some none)
  (y_len : PySem.W.nsIn K mainGlobals "len" = some none)
  (y_any : PySem.W.nsIn K mainGlobals "any" = some none)
  (y_int : PySem.W.nsIn K mainGlobals "int" = some none)
  (y_list : PySem.W.nsIn K mainGlobals "list" = some none)
  (y_isinstance : PySem.W.nsIn K mainGlobals "isinstance" = some none)
  (y_bool : PySem.W.nsIn K mainGlobals "bool" = some none)
  (y_sorted : PySem.W.nsIn K mainGlobals "sorted" = some none)
  : ∃ fd : FuncData, (∀ (s : Shared) (v : Value), BindsTo s fd ⟨[v], []⟩ [("script", v)]) ∧ ∀ base : Heap, K.In base → base.Ns mainGlobals mg → FnOk l.prog w K mg base (L2.CX l.prog w) 15 fa fd ["script"] (spF K 1 (callF T wf 15 25)) := by
  have e := hfa.symm.trans (PySem.W.mg_of X G a25)
  cases e
  have F0 := fun_mk (st := s_is_change) l0 e0 k0
  have F1 := fun_mk (st := s_kinds_clash) l1 e1 k1
  have F2 := fun_mk (st := s_kinds_meet) l2 e2 k2
  have F3 := fun_mk (st := s_places_of) l3 e3 k3
  have F4 := fun_mk (st := s_step_at) l4 e4 k4
  have F5 := fun_mk (st := s_is_own) l5 e5 k5
  have F6 := fun_mk (st := s_placed_steps) l6 e6 k6
  have F7 := fun_mk (st := s_open_steps) l7 e7 k7
  have F8 := fun_mk (st := s_steps_meet) l8 e8 k8
  have F9 := fun_mk (st := s_steps_clash) l9 e9 k9
  have F10 := fun_mk (st := s_meetings_of) l10 e10 k10
  have F11 := fun_mk (st := s_clashes_of) l11 e11 k11
  have F12 := fun_mk (st := s_law_pool) l12 e12 k12
  have F13 := fun_mk (st := s_law_draw) l13 e13 k13
  have F14 := fun_mk (st := s_law_order) l14 e14 k14
  have F15 := fun_mk (st := s_law_word) l15 e15 k15
  have F16 := fun_mk (st := s_law_column) l16 e16 k16
  have F17 := fun_mk (st := s_law_slots) l17 e17 k17
  have F18 := fun_mk (st := s_law_statement) l18 e18 k18
  have F19 := fun_mk (st := s_law_deal) l19 e19 k19
  have F20 := fun_mk (st := s_law_same) l20 e20 k20
  have F21 := fun_mk (st := s_law_steps) l21 e21 k21
  have F22 := fun_mk (st := s_law_clash) l22 e22 k22
  have F23 := fun_mk (st := s_law_pairs) l23 e23 k23
  have F24 := fun_mk (st := s_law_mixed) l24 e24 k24
  have F25 := fun_mk (st := s_law) l25 e25 k25
  have B0 := F0.binds (ps := ["kind"]) fun _ _ _ _ _ _ us hl => match us, hl with | [_], _ => rfl
  have B1 := F1.binds (ps := ["one", "other"]) fun _ _ _ _ _ _ us hl => match us, hl with | [_, _], _ => rfl
  have B2 := F2.binds (ps := ["one", "other"]) fun _ _ _ _ _ _ us hl => match us, hl with | [_, _], _ => rfl
  have B3 := F3.binds (ps := ["deal"]) fun _ _ _ _ _ _ us hl => match us, hl with | [_], _ => rfl
  have B4 := F4.binds (ps := ["deal", "place"]) fun _ _ _ _ _ _ us hl => match us, hl with | [_, _], _ => rfl
  have B5 := F5.binds (ps := ["deal", "place"]) fun _ _ _ _ _ _ us hl => match us, hl with | [_, _], _ => rfl
  have B6 := F6.binds (ps := ["deal"]) fun _ _ _ _ _ _ us hl => match us, hl with | [_], _ => rfl
  have B7 := F7.binds (ps := ["deal"]) fun _ _ _ _ _ _ us hl => match us, hl with | [_], _ => rfl
  have B8 := F8.binds (ps := ["one", "other"]) fun _ _ _ _ _ _ us hl => match us, hl with | [_, _], _ => rfl
  have B9 := F9.binds (ps := ["one", "other"]) fun _ _ _ _ _ _ us hl => match us, hl with | [_, _], _ => rfl
  have B10 := F10.binds (ps := ["one", "other"]) fun _ _ _ _ _ _ us hl => match us, hl with | [_, _], _ => rfl
  have B11 := F11.binds (ps := ["one", "other"]) fun _ _ _ _ _ _ us hl => match us, hl with | [_, _], _ => rfl
  have B12 := F12.binds (ps := ["script"]) fun _ _ _ _ _ _ us hl => match us, hl with | [_], _ => rfl
  have B13 := F13.binds (ps := ["pool", "many"]) fun _ _ _ _ _ _ us hl => match us, hl with | [_, _], _ => rfl
  have B14 := F14.binds (ps := ["pool", "things"]) fun _ _ _ _ _ _ us hl => match us, hl with | [_, _], _ => rfl
  have B15 := F15.binds (ps := ["pool", "signs", "least", "most"]) fun _ _ _ _ _ _ us hl => match us, hl with | [_, _, _, _], _ => rfl
  have B16 := F16.binds (ps := ["pool"]) fun _ _ _ _ _ _ us hl => match us, hl with | [_], _ => rfl
  have B17 := F17.binds (ps := ["pool", "many"]) fun _ _ _ _ _ _ us hl => match us, hl with | [_, _], _ => rfl
  have B18 := F18.binds (ps := ["pool", "slots", "most"]) fun _ _ _ _ _ _ us hl => match us, hl with | [_, _, _], _ => rfl
  have B19 := F19.binds (ps := ["pool", "slots", "pieces", "most", "wide"]) fun _ _ _ _ _ _ us hl => match us, hl with | [_, _, _, _, _], _ => rfl
  have B20 := F20.binds (ps := ["told", "due"]) fun _ _ _ _ _ _ us hl => match us, hl with | [_, _], _ => rfl
  have B21 := F21.binds (ps := ["deal"]) fun _ _ _ _ _ _ us hl => match us, hl with | [_], _ => rfl
  have B22 := F22.binds (ps := ["one", "other"]) fun _ _ _ _ _ _ us hl => match us, hl with | [_, _], _ => rfl
  have B23 := F23.binds (ps := ["one", "other", "meet"]) fun _ _ _ _ _ _ us hl => match us, hl with | [_, _, _], _ => rfl
  have B24 := F24.binds (ps := ["pool", "slots"]) fun _ _ _ _ _ _ us hl => match us, hl with | [_, _], _ => rfl
  have z_tuple := PySem.W.mg_none_of X G y_tuple
  have z_enumerate := PySem.W.mg_none_of X G y_enumerate
  have z_range := PySem.W.mg_none_of X G y_range
  have z_len := PySem.W.mg_none_of X G y_len
  have z_any := PySem.W.mg_none_of X G y_any
  have z_int := PySem.W.mg_none_of X G y_int
  have z_list := PySem.W.mg_none_of X G y_list
  have z_isinstance := PySem.W.mg_none_of X G y_isinstance
  have z_bool := PySem.W.mg_none_of X G y_bool
  have z_sorted := PySem.W.mg_none_of X G y_sorted
  refine ⟨PySem.W.fnOf "law" "law" (defArgs s_law) (defBody s_law) (defScope s_law) .none kV25 dc25 pm25 an25 cd25 ct25, fun s v => .of_eq rfl, fun base _ _ => ?_⟩
  have CC : ∀ k : Nat, (Cee l.prog w K mg base (callF T wf k 0) "is_change" 1 k) ∧ (Cee l.prog w K mg base (callF T wf k 1) "kinds_clash" 2 k) ∧ (Cee l.prog w K mg base (callF T wf k 2) "kinds_meet" 2 k) ∧ (Cee l.prog w K mg base (callF T wf k 3) "places_of" 1 k) ∧ (Cee l.prog w K mg base (callF T wf k 4) "step_at" 2 k) ∧ (Cee l.prog w K mg base (callF T wf k 5) "is_own" 2 k) ∧ (Cee l.prog w K mg base (callF T wf k 6) "placed_steps" 1 k) ∧ (Cee l.prog w K mg base (callF T wf k 7) "open_steps" 1 k) ∧ (Cee l.prog w K mg base (callF T wf k 8) "steps_meet" 2 k) ∧ (Cee l.prog w K mg base (callF T wf k 9) "steps_clash" 2 k) ∧ (Cee l.prog w K mg base (callF T wf k 10) "meetings_of" 2 k) ∧ (Cee l.prog w K mg base (callF T wf k 11) "clashes_of" 2 k) ∧ (Cee l.prog w K mg base (callF T wf k 12) "_law_pool" 1 k) ∧ (Cee l.prog w K mg base (callF T wf k 13) "_law_draw" 2 k) ∧ (Cee l.prog w K mg base (callF T wf k 14) "_law_order" 2 k) ∧ (Cee l.prog w K mg base (callF T wf k 15) "_law_word" 4 k) ∧ (Cee l.prog w K mg base (callF T wf k 16) "_law_column" 1 k) ∧ (Cee l.prog w K mg base (callF T wf k 17) "_law_slots" 2 k) ∧ (Cee l.prog w K mg base (callF T wf k 18) "_law_statement" 3 k) ∧ (Cee l.prog w K mg base (callF T wf k 19) "_law_deal" 5 k) ∧ (Cee l.prog w K mg base (callF T wf k 20) "_law_same" 2 k) ∧ (Cee l.prog w K mg base (callF T wf k 21) "_law_steps" 1 k) ∧ (Cee l.prog w K mg base (callF T wf k 22) "_law_clash" 2 k) ∧ (Cee l.prog w K mg base (callF T wf k 23) "_law_pairs" 3 k) ∧ (Cee l.prog w K mg base (callF T wf k 24) "_law_mixed" 2 k) := fun k => by
    induction k with
    | zero => exact ⟨cee_mk F0 B0 (PySem.W.mg_of X G a0) fn_zero rfl, cee_mk F1 B1 (PySem.W.mg_of X G a1) fn_zero rfl, cee_mk F2 B2 (PySem.W.mg_of X G a2) fn_zero rfl, cee_mk F3 B3 (PySem.W.mg_of X G a3) fn_zero rfl, cee_mk F4 B4 (PySem.W.mg_of X G a4) fn_zero rfl, cee_mk F5 B5 (PySem.W.mg_of X G a5) fn_zero rfl, cee_mk F6 B6 (PySem.W.mg_of X G a6) fn_zero rfl, cee_mk F7 B7 (PySem.W.mg_of X G a7) fn_zero rfl, cee_mk F8 B8 (PySem.W.mg_of X G a8) fn_zero rfl, cee_mk F9 B9 (PySem.W.mg_of X G a9) fn_zero rfl, cee_mk F10 B10 (PySem.W.mg_of X G a10) fn_zero rfl, cee_mk F11 B11 (PySem.W.mg_of X G a11) fn_zero rfl, cee_mk F12 B12 (PySem.W.mg_of X G a12) fn_zero rfl, cee_mk F13 B13 (PySem.W.mg_of X G a13) fn_zero rfl, cee_mk F14 B14 (PySem.W.mg_of X G a14) fn_zero rfl, cee_mk F15 B15 (PySem.W.mg_of X G a15) fn_zero rfl, cee_mk F16 B16 (PySem.W.mg_of X G a16) fn_zero rfl, cee_mk F17 B17 (PySem.W.mg_of X G a17) fn_zero rfl, cee_mk F18 B18 (PySem.W.mg_of X G a18) fn_zero rfl, cee_mk F19 B19 (PySem.W.mg_of X G a19) fn_zero rfl, cee_mk F20 B20 (PySem.W.mg_of X G a20) fn_zero rfl, cee_mk F21 B21 (PySem.W.mg_of X G a21) fn_zero rfl, cee_mk F22 B22 (PySem.W.mg_of X G a22) fn_zero rfl, cee_mk F23 B23 (PySem.W.mg_of X G a23) fn_zero rfl, cee_mk F24 B24 (PySem.W.mg_of X G a24) fn_zero rfl⟩
    | succ k ih =>
      obtain ⟨C0, C1, C2, C3, C4, C5, C6, C7, C8, C9, C10, C11, C12, C13, C14, C15, C16, C17, C18, C19, C20, C21, C22, C23, C24⟩ := ih
      exact ⟨cee_mk F0 B0 (PySem.W.mg_of X G a0) (w_is_change (k := k) F0  ) rfl,
        cee_mk F1 B1 (PySem.W.mg_of X G a1) (w_kinds_clash (k := k) F1  ) rfl,
        cee_mk F2 B2 (PySem.W.mg_of X G a2) (w_kinds_meet (k := k) F2 C0 C1 ) rfl,
        cee_mk F3 B3 (PySem.W.mg_of X G a3) (w_places_of (k := k) F3  z_tuple z_enumerate z_range z_len) rfl,
        cee_mk F4 B4 (PySem.W.mg_of X G a4) (w_step_at (k := k) F4  ) rfl,
        cee_mk F5 B5 (PySem.W.mg_of X G a5) (w_is_own (k := k) F5 C4 z_any) rfl,
        cee_mk F6 B6 (PySem.W.mg_of X G a6) (w_placed_steps (k := k) F6 C3 C4 ) rfl,
        cee_mk F7 B7 (PySem.W.mg_of X G a7) (w_open_steps (k := k) F7  z_enumerate) rfl,
        cee_mk F8 B8 (PySem.W.mg_of X G a8) (w_steps_meet (k := k) F8 C2 ) rfl,
        cee_mk F9 B9 (PySem.W.mg_of X G a9) (w_steps_clash (k := k) F9 C1 ) rfl,
        cee_mk F10 B10 (PySem.W.mg_of X G a10) (w_meetings_of (k := k) F10 C7 C8 z_tuple) rfl,
        cee_mk F11 B11 (PySem.W.mg_of X G a11) (w_clashes_of (k := k) F11 C6 C9 z_tuple) rfl,
        cee_mk F12 B12 (PySem.W.mg_of X G a12) (w_law_pool (k := k) F12  z_int) rfl,
        cee_mk F13 B13 (PySem.W.mg_of X G a13) (w_law_draw (k := k) F13  z_int) rfl,
        cee_mk F14 B14 (PySem.W.mg_of X G a14) (w_law_order (k := k) F14 C13 z_range z_len z_list) rfl,
        cee_mk F15 B15 (PySem.W.mg_of X G a15) (w_law_word (k := k) F15 C13 z_range z_len) rfl,
        cee_mk F16 B16 (PySem.W.mg_of X G a16) (w_law_column (k := k) F16 C13 C15 ) rfl,
        cee_mk F17 B17 (PySem.W.mg_of X G a17) (w_law_slots (k := k) F17 C14 C13 C15 C16 z_range) rfl,
        cee_mk F18 B18 (PySem.W.mg_of X G a18) (w_law_statement (k := k) F18 C13 z_tuple z_range z_len) rfl,
        cee_mk F19 B19 (PySem.W.mg_of X G a19) (w_law_deal (k := k) F19 C13 C18 z_tuple z_range) rfl,
        cee_mk F20 B20 (PySem.W.mg_of X G a20) (w_law_same (k := k) F20 C20 z_range z_len z_isinstance z_tuple z_int z_bool) rfl,
        cee_mk F21 B21 (PySem.W.mg_of X G a21) (w_law_steps (k := k) F21  z_range z_len) rfl,
        cee_mk F22 B22 (PySem.W.mg_of X G a22) (w_law_clash (k := k) F22  z_sorted) rfl,
        cee_mk F23 B23 (PySem.W.mg_of X G a23) (w_law_pairs (k := k) F23 C21 C22 z_tuple z_sorted) rfl,
        cee_mk F24 B24 (PySem.W.mg_of X G a24) (w_law_mixed (k := k) F24 C13 z_tuple z_range) rfl⟩
  obtain ⟨C0, C1, C2, C3, C4, C5, C6, C7, C8, C9, C10, C11, C12, C13, C14, C15, C16, C17, C18, C19, C20, C21, C22, C23, C24⟩ := CC 14
  exact w_law (k := 14) F25 C20 C23 C10 C11 C21 C5 C19 C13 C24 C17 C12 z_isinstance z_bool z_range
end
end K05

namespace K05
def wf : Nat := 0
theorem law_true (ns : List Int) (h : ns.length ≤ 63) : Aw.callF T wf 15 25 [.lst true (ns.map Aw.D.int)] = .ok (.bl true) [.lst true (ns.map Aw.D.int)] := Aw.L05.law_v wf ns 6
end K05
open PySem PySem.W PyProof.Rows
set_option maxHeartbeats 0 in
theorem PySem.Challenge.cw_asinturn_k05_own_meetings_holds : PySem.Challenge.rw_asinturn_k05_own_meetings.Holds := by
  w_on; o_law; k_head; (case hw => w_witness2)
  k_fill
  refine L2.walk_of (l := PySem.Challenge.rw_asinturn_k05_own_meetings) (n := 63) (k := 15) (x := "script") (CX := fun w => L2.CX PySem.Challenge.rw_asinturn_k05_own_meetings.prog w) (sp := fun w => Aw.spF _ 1 (Aw.callF K05.T K05.wf 15 25)) rfl (by decide) rfl ⟨rfl, by decide, by decide⟩ (fun w h Y => PySem.W.kIn_of Y) ?F (fun _ H a ns hl hO hS => Aw.law_says hO hS (K05.law_true ns hl)) (fun _ _ _ _ _ h => Aw.cx_none h)
  case F =>
    intro w mg fa h KX G hmg
    refine' K05.all_mk KX G hmg K05.wf ?a0 ?l0 ?e0 ?k0 ?a1 ?l1 ?e1 ?k1 ?a2 ?l2 ?e2 ?k2 ?a3 ?l3 ?e3 ?k3 ?a4 ?l4 ?e4 ?k4 ?a5 ?l5 ?e5 ?k5 ?a6 ?l6 ?e6 ?k6 ?a7 ?l7 ?e7 ?k7 ?a8 ?l8 ?e8 ?k8 ?a9 ?l9 ?e9 ?k9 ?a10 ?l10 ?e10 ?k10 ?a11 ?l11 ?e11 ?k11 ?a12 ?l12 ?e12 ?k12 ?a13 ?l13 ?e13 ?k13 ?a14 ?l14 ?e14 ?k14 ?a15 ?l15 ?e15 ?k15 ?a16 ?l16 ?e16 ?k16 ?a17 ?l17 ?e17 ?k17 ?a18 ?l18 ?e18 ?k18 ?a19 ?l19 ?e19 ?k19 ?a20 ?l20 ?e20 ?k20 ?a21 ?l21 ?e21 ?k21 ?a22 ?l22 ?e22 ?k22 ?a23 ?l23 ?e23 ?k23 ?a24 ?l24 ?e24 ?k24 ?a25 ?l25 ?e25 ?k25 ?y_tuple ?y_enumerate ?y_range ?y_len ?y_any ?y_int ?y_list ?y_isinstance ?y_bool ?y_sorted
    (case a0 => k_is); (case l0 => k_is); (case e0 => k_is); (case k0 => k_is); (case a1 => k_is); (case l1 => k_is); (case e1 => k_is); (case k1 => k_is); (case a2 => k_is); (case l2 => k_is); (case e2 => k_is); (case k2 => k_is); (case a3 => k_is); (case l3 => k_is); (case e3 => k_is); (case k3 => k_is); (case a4 => k_is); (case l4 => k_is); (case e4 => k_is); (case k4 => k_is); (case a5 => k_is); (case l5 => k_is); (case e5 => k_is); (case k5 => k_is); (case a6 => k_is); (case l6 => k_is); (case e6 => k_is); (case k6 => k_is); (case a7 => k_is); (case l7 => k_is); (case e7 => k_is); (case k7 => k_is); (case a8 => k_is); (case l8 => k_is); (case e8 => k_is); (case k8 => k_is); (case a9 => k_is); (case l9 => k_is); (case e9 => k_is); (case k9 => k_is); (case a10 => k_is); (case l10 => k_is); (case e10 => k_is); (case k10 => k_is); (case a11 => k_is); (case l11 => k_is); (case e11 => k_is); (case k11 => k_is); (case a12 => k_is); (case l12 => k_is); (case e12 => k_is); (case k12 => k_is); (case a13 => k_is); (case l13 => k_is); (case e13 => k_is); (case k13 => k_is); (case a14 => k_is); (case l14 => k_is); (case e14 => k_is); (case k14 => k_is); (case a15 => k_is); (case l15 => k_is); (case e15 => k_is); (case k15 => k_is); (case a16 => k_is); (case l16 => k_is); (case e16 => k_is); (case k16 => k_is); (case a17 => k_is); (case l17 => k_is); (case e17 => k_is); (case k17 => k_is); (case a18 => k_is); (case l18 => k_is); (case e18 => k_is); (case k18 => k_is); (case a19 => k_is); (case l19 => k_is); (case e19 => k_is); (case k19 => k_is); (case a20 => k_is); (case l20 => k_is); (case e20 => k_is); (case k20 => k_is); (case a21 => k_is); (case l21 => k_is); (case e21 => k_is); (case k21 => k_is); (case a22 => k_is); (case l22 => k_is); (case e22 => k_is); (case k22 => k_is); (case a23 => k_is); (case l23 => k_is); (case e23 => k_is); (case k23 => k_is); (case a24 => k_is); (case l24 => k_is); (case e24 => k_is); (case k24 => k_is); (case a25 => k_is); (case l25 => k_is); (case e25 => k_is); (case k25 => k_is); (case y_tuple => k_is); (case y_enumerate => k_is); (case y_range => k_is); (case y_len => k_is); (case y_any => k_is); (case y_int => k_is); (case y_list => k_is); (case y_isinstance => k_is); (case y_bool => k_is); (case y_sorted => k_is)

