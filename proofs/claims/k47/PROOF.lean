import PyProof.Rows.All
import Wide.All
import OpenK.AllK
import Wide.FinOn
import HandS.Base
import HandS.Call
import HandS.List
import HandS.Comp
import HandS.Dict
import HandS.Iter
import HandS.Zip
import HandS.Text
import HandS.More
import HandS.Exc
import HandS.ExcOwn
import HandS.Words
import HandS.WordsExc
import HandS.IsInst
import HandS.ExcIs
import HandS.Gcd
import HandS.Wide
import HandS.TupAny
import HandS.TupMul
import HandS.TupLe
import HandS.Deep
import HandS.Style
import HandS.Rev
import HandS.Defaults
import HandS.TryOnly
import HandS.Hot
import HandS.HotCalls
import HandS.Lambda
import HandS.Flow
import KE.SortData
import PyProof.Draws
import PyProof.EnumMake
import HandS.ExcCtx
import HandS.HeadHook4
import HandS.HeadWalk
import KE.KStateDown
import HandS.Head0
import HandS.Head1
import HandS.Head2
import HandS.Head3
import HandS.HeadEnd
import HandS.HeadHook1
import HandS.HeadHook2
import HandS.HeadHook3
import PySem.Challenge.RW_linessummed_k47_whole_codes
section
set_option Elab.async false
set_option linter.all false
set_option maxRecDepth 100000
/-! IT: a total evaluator for a fragment of Python, and its soundness over the hand layer. -/
namespace IT
open PySem PySem.Spec PyProof.Rows L2

/-- data: trees for what never changes, .ref n for the n-th object of the store (a list, a dict that is written) -/
inductive D where
  | non | bl (b : Bool) | int (i : Int) | str (x : Str)
  | tup (xs : List D) | lst (xs : List D)
  | ref (n : Nat) | glo (n : Nat) | ty (n : String) | scr (ns : List Int)
mutual
def D.beq : D → D → Bool
  | .non, .non => true
  | .bl a, .bl b => a == b
  | .int a, .int b => decide (a = b)
  | .str a, .str b => decide (a = b)
  | .tup a, .tup b => D.beqL a b
  | .lst a, .lst b => D.beqL a b
  | .ref a, .ref b => decide (a = b)
  | .glo a, .glo b => decide (a = b)
  | .ty a, .ty b => decide (a = b)
  | .scr a, .scr b => decide (a = b)
  | _, _ => false
def D.beqL : List D → List D → Bool
  | [], [] => true
  | a :: r, b :: t => D.beq a b && D.beqL r t
  | _, _ => false
end
mutual
theorem D.beq_eq : ∀ {a b : D}, D.beq a b = true → a = b
  | .non, .non, _ => rfl
  | .bl a, .bl b, h => by simp [D.beq] at h; rw [h]
  | .int a, .int b, h => by simp [D.beq] at h; rw [h]
  | .str a, .str b, h => by simp [D.beq] at h; rw [h]
  | .tup a, .tup b, h => by rw [D.beq] at h; rw [D.beqL_eq h]
  | .lst a, .lst b, h => by rw [D.beq] at h; rw [D.beqL_eq h]
  | .ref a, .ref b, h => by simp [D.beq] at h; rw [h]
  | .glo a, .glo b, h => by simp [D.beq] at h; rw [h]
  | .ty a, .ty b, h => by simp [D.beq] at h; rw [h]
  | .scr a, .scr b, h => by simp [D.beq] at h; rw [h]
theorem D.beqL_eq : ∀ {a b : List D}, D.beqL a b = true → a = b
  | [], [], _ => rfl
  | a :: r, b :: t, h => by
    rw [D.beqL, Bool.and_eq_true] at h
    rw [D.beq_eq h.1, D.beqL_eq h.2]
end
mutual
theorem D.beq_refl : ∀ a : D, D.beq a a = true
  | .non => rfl
  | .bl a => by simp [D.beq]
  | .int a => by simp [D.beq]
  | .str a => by simp [D.beq]
  | .tup a => by rw [D.beq]; exact D.beqL_refl a
  | .lst a => by rw [D.beq]; exact D.beqL_refl a
  | .ref a => by simp [D.beq]
  | .glo a => by simp [D.beq]
  | .ty a => by simp [D.beq]
  | .scr a => by simp [D.beq]
theorem D.beqL_refl : ∀ a : List D, D.beqL a a = true
  | [] => rfl
  | a :: r => by rw [D.beqL, D.beq_refl a, D.beqL_refl r]; rfl
end
/-- an object of the store -/
inductive Ob where
  | lst (xs : List D)
  | dct (kvs : List (D × D))
abbrev Env := List (Option D)
abbrev Sto := List Ob
/-- what an evaluation comes to; ex c x: an exception of the c-th global's class that bears x -/
inductive R (α : Type) where
  | ok (a : α) (S : Sto)
  | ex (c : Nat) (x : D) (S : Sto)
  | bad
def R.bind {α β : Type} (r : R α) (f : α → Sto → R β) : R β := match r with
  | .ok a S => f a S
  | .ex c x S => .ex c x S
  | .bad => .bad


inductive BO where | add | sub | mul | fdiv | mod | pow | cat | rep
inductive CO where | eq | ne | lt | le | gt | ge | is | isnot | in_ | notin
inductive BI where | len | abs | int | tuple | list | all | any | gcd | sum | str | nlist | sorted
/-- a target: a name's slot, a tuple of targets -/
inductive T where | n (i : Nat) | t (ts : List T)
inductive E where
  | v (i : Nat) | k (d : D) | g (i : Nat)
  | bin (o : BO) (a b : E)
  | cmp (o : CO) (a b : E)
  | chn (o o' : CO) (a b c : E)
  | neg (a : E) | nt (a : E)
  | and (a b : E) | or (a b : E)
  | ite (c a b : E)
  | tup (es : List E) | lst (es : List E) | nlst (es : List E)
  | ix (a i : E) | sl (a : E) (lo hi : Option E) | rev (a : E)
  | call (f : Nat) (es : List E)
  | callv (i : Nat) (es : List E)
  | lam (f : Nat) (b : E)
  | bi (b : BI) (es : List E)
  | isi (a : E) (t : String)
  | exi (c : Nat) | exf
  | app (o e : E)
  | join (a b : E)
  | lc (m : Bool) (elt : E) (tg : T) (it : E) (c : Option E) (own : List Nat)
  | rng (lo : Option E) (hi : E) | zip (a b : E) | enum (a : E)
inductive S where
  | asg (t : T) (e : E)
  | setix (o i e : E)
  | ex (e : E)
  | ite (c : E) (a b : List S)
  | for_ (t : T) (it : E) (b : List S)
  | whl (c : E) (b : List S)
  | ret (e : Option E)
  | brk | cnt | pas
  | rai (c : Nat)
  /-- what the core has no word for: not to be reached -/
  | no
  | tr (b : List S) (c : Nat) (i : Nat) (h : List S)

/-! ### operations -/
mutual
def D.pure? : D → Option PyData
  | .non => some .none
  | .bl b => some (.bool b)
  | .int i => some (.int i)
  | .str x => some (.str x)
  | .tup xs => (D.pures? xs).map PyData.tuple
  | .lst xs => (D.pures? xs).map PyData.list
  | _ => none
def D.pures? : List D → Option (List PyData)
  | [] => some []
  | x :: r => match D.pure? x, D.pures? r with
    | some p, some ps => some (p :: ps)
    | _, _ => none
end
def listOf (S : Sto) : D → Option (List D)
  | .lst xs => some xs
  | .ref n => match S[n]? with
    | some (.lst xs) => some xs
    | _ => none
  | _ => none
def dataOf (S : Sto) (d : D) : Option PyData := match d with
  | .ref n => match S[n]? with
    | some (.lst xs) => (D.pures? xs).map PyData.list
    | _ => none
  | d => D.pure? d
def eqD (S : Sto) (x y : D) : Option Bool := match dataOf S x, dataOf S y with
  | some p, some q => if SeqAt.shaped p = true ∧ SeqAt.shaped q = true then some (PyData.eqv p q) else none
  | _, _ => none
def ints? : List D → Option (List Int)
  | [] => some []
  | .int i :: r => (ints? r).map (i :: ·)
  | _ :: _ => none
def bls? : List D → Option (List Bool)
  | [] => some []
  | .bl b :: r => (bls? r).map (b :: ·)
  | _ :: _ => none
def strs? : List D → Option (List Str)
  | [] => some []
  | .str x :: r => (strs? r).map (x :: ·)
  | _ :: _ => none
def mulOk (i j : Int) : Bool := (decide (-(2 ^ 64) < i) && decide (i < 2 ^ 64)) || (decide (-(2 ^ 64) < j) && decide (j < 2 ^ 64)) || decide (i.natAbs.log2 + j.natAbs.log2 < 1000000)
def divOk (j : Int) : Bool := decide (0 < j) && (decide (j < 1073741824) || decide (j.natAbs.log2 < 9000))
def addD (x y : D) (S : Sto) : R D := match x, y with
  | .int i, .int j => .ok (.int (i + j)) S
  | .str a, .str b => if a.length + b.length ≤ sizeLine then .ok (.str (a ++ b)) S else .bad
  | .tup a, .tup b => if a.length + b.length ≤ sizeLine then .ok (.tup (a ++ b)) S else .bad
  | x, y => (match listOf S x, listOf S y with
    | some a, some b => if a.length + b.length ≤ sizeLine then .ok (.lst (a ++ b)) S else .bad
    | _, _ => .bad)
def mulD (x y : D) (S : Sto) : R D := match x, y with
  | .int i, .int j => if mulOk i j = true then .ok (.int (i * j)) S else .bad
  | .tup a, .int k => if -(2 ^ 63) ≤ k ∧ k < 2 ^ 63 ∧ (a.isEmpty || k == 1) = true then .ok (.tup a) S else if a.isEmpty = false ∧ 2 ≤ k ∧ k ≤ 1000 ∧ a.length ≤ 1000 then .ok (.tup (List.replicate k.toNat a).flatten) S else if a.isEmpty = false ∧ -(2 ^ 63) ≤ k ∧ k ≤ 0 then .ok (.tup []) S else .bad
  | x, .int k => (match listOf S x with
    | some a => if -(2 ^ 63) ≤ k ∧ k < 2 ^ 63 ∧ a.length * k.toNat ≤ sizeLine then .ok (.lst (List.replicate k.toNat a).flatten) S else .bad
    | none => .bad)
  | _, _ => .bad
def subD (x y : D) (S : Sto) : R D := match x, y with
  | .int i, .int j => .ok (.int (i - j)) S
  | _, _ => .bad
def fdivD (x y : D) (S : Sto) : R D := match x, y with
  | .int i, .int j => if divOk j = true then .ok (.int (i / j)) S else .bad
  | _, _ => .bad
def modD (x y : D) (S : Sto) : R D := match x, y with
  | .int i, .int j => if 0 < j then .ok (.int (i % j)) S else .bad
  | _, _ => .bad
def powD (x y : D) (S : Sto) : R D := match x, y with
  | .int i, .int j => if 0 ≤ j ∧ j ≤ 1000000 ∧ i.natAbs < 2 ^ 64 then .ok (.int (i ^ j.toNat)) S else .bad
  | _, _ => .bad
/-- lists joined, the new one to be written -/
def catD (x y : D) (S : Sto) : R D := match listOf S x, listOf S y with
  | some a, some b => if a.length + b.length ≤ sizeLine then .ok (.ref S.length) (S ++ [.lst (a ++ b)]) else .bad
  | _, _ => .bad
def repD (x y : D) (S : Sto) : R D := match y, listOf S x with
  | .int k, some a => if -(2 ^ 63) ≤ k ∧ k < 2 ^ 63 ∧ a.length * k.toNat ≤ sizeLine then .ok (.ref S.length) (S ++ [.lst (List.replicate k.toNat a).flatten]) else .bad
  | _, _ => .bad
def binop (o : BO) : D → D → Sto → R D := match o with
  | .add => addD
  | .sub => subD
  | .mul => mulD
  | .fdiv => fdivD
  | .mod => modD
  | .pow => powD
  | .cat => catD
  | .rep => repD
def flat : D → Bool
  | .non => true
  | .bl _ => true
  | .int _ => true
  | .str _ => true
  | _ => false
def eqF : D → D → Bool
  | .non, .non => true
  | .bl a, .bl b => a == b
  | .bl a, .int j => decide ((if a then 1 else 0) = j)
  | .int i, .bl b => decide (i = if b then 1 else 0)
  | .int i, .int j => decide (i = j)
  | .str x, .str y => decide (x = y)
  | _, _ => false
def tupOrList (S : Sto) : D → Option (List D)
  | .tup xs => some xs
  | d => listOf S d
def ltD (x y : D) : Option Bool := match x, y with
  | .int i, .int j => some (decide (i < j))
  | .str i, .str j => some (decide (i.cps.toList < j.cps.toList))
  | .tup a, .tup b => (match ints? a, ints? b with
    | some ns, some ms => some (HT.lexLt ns ms)
    | _, _ => none)
  | _, _ => none
def cmpI (f : Int → Int → Bool) (x y : D) : Option Bool := match x, y with
  | .int i, .int j => some (f i j)
  | _, _ => none
def isNone (x y : D) : Option Bool := match y with
  | .non => some (match x with | .non => true | _ => false)
  | .bl b => (match x with | .bl a => some (a == b) | _ => none)
  | _ => none
/-- x in items: data of any depth -/
def inAny (x : D) (ys : List D) : Option Bool := match D.pure? x, D.pures? ys with
  | some d, some ds => if PyData.canLayAll0 ds = true ∧ d.canLay0 = true ∧ d.depth ≤ 60 then some (ds.any fun z => PyData.eqv z d) else none
  | _, _ => none
def inD (S : Sto) (x y : D) : Option Bool := match x, y with
  | .str i, .str j => some (!(Builtin.Str.occurrences j i 0 j.length 1).isEmpty)
  | x, y => (match tupOrList S y with
    | some ys => if flat x = true ∧ ys.all flat = true then some (ys.any fun z => eqF z x) else inAny x ys
    | none => none)
def cmpop (o : CO) (x y : D) (S : Sto) : Option Bool := match o with
  | .eq => eqD S x y
  | .ne => (eqD S x y).map not
  | .lt => ltD x y
  | .le => cmpI (fun i j => decide (i ≤ j)) x y
  | .gt => cmpI (fun i j => decide (j < i)) x y
  | .ge => cmpI (fun i j => decide (j ≤ i)) x y
  | .is => isNone x y
  | .isnot => (isNone x y).map not
  | .in_ => inD S x y
  | .notin => (inD S x y).map not
def truth (S : Sto) : D → Option Bool
  | .bl b => some b
  | .int i => some (i != 0)
  | .non => some false
  | .str x => if x.length ≤ sizeLine then some (x.length != 0) else none
  | .tup xs => some (!xs.isEmpty)
  | d => (listOf S d).map fun xs => !xs.isEmpty
def seqOf (S : Sto) : D → Option (List D)
  | .scr ns => some (ns.map D.int)
  | d => tupOrList S d
def index (x y : D) (S : Sto) : R D := match x, y with
  | .str z, .int i => if z.length ≤ sizeLine then (match atI z.cps.toList i with
    | some c => .ok (.str ⟨#[c]⟩) S
    | none => .bad) else .bad
  | x, .int i => (match tupOrList S x with
    | some xs => (match atI xs i with
      | some d => .ok d S
      | none => .bad)
    | none => .bad)
  | _, _ => .bad
def cutD (xs : List D) (lo hi : Option Int) : List D := (xs.drop (HT.sIx xs.length 0 lo)).take (HT.sIx xs.length xs.length hi - HT.sIx xs.length 0 lo)
def slice (x : D) (lo hi : Option Int) (S : Sto) : R D := match x with
  | .str z => if z.length ≤ sizeLine then .ok (.str (cutS z lo hi)) S else .bad
  | .tup xs => .ok (.tup (cutD xs lo hi)) S
  | x => (match listOf S x with
    | some xs => .ok (.lst (cutD xs lo hi)) S
    | none => .bad)
def revd (x : D) (S : Sto) : R D := match x with
  | .tup xs => .ok (.tup xs.reverse) S
  | x => (match listOf S x with
    | some xs => .ok (.lst xs.reverse) S
    | none => .bad)
/-! sorted: data that are alike -/
def dOf (d : D) : PyData := (D.pure? d).getD .none
def leD (a b : D) : Bool := !PySem.W.dataLt (dOf b) (dOf a)
def insD (a : D) : List D → List D
  | [] => [a]
  | b :: r => if leD a b = true then a :: b :: r else b :: insD a r
def srtD : List D → List D
  | [] => []
  | a :: r => insD a (srtD r)
def isTupNe : PyData → Bool
  | .tuple (_ :: _) => true
  | _ => false
def notTN : PyData → Bool
  | .none => false
  | .tuple _ => false
  | _ => true
def sortOk (ps : List PyData) : Bool := (ps.all fun p => ps.all fun q => PySem.W.alike p q) && (ps.all isTupNe || ps.all notTN) && decide (ps.length ≤ sizeLine) && ps.all fun p => decide (p.depth ≤ 60)
def bins (b : BI) (ds : List D) (S : Sto) : R D := match b, ds with
  | .len, [.str x] => if x.length ≤ sizeLine then .ok (.int x.length) S else .bad
  | .len, [x] => (match seqOf S x with
    | some xs => .ok (.int xs.length) S
    | none => .bad)
  | .abs, [.int i] => .ok (.int (if i < 0 then -i else i)) S
  | .int, [.int i] => .ok (.int i) S
  | .int, [.bl k] => .ok (.int (if k then 1 else 0)) S
  | .tuple, [.tup xs] => .ok (.tup xs) S
  | .tuple, [x] => (match listOf S x with
    | some xs => .ok (.tup xs) S
    | none => .bad)
  | .list, [x] => (match seqOf S x with
    | some xs => .ok (.lst xs) S
    | none => .bad)
  | .nlist, [x] => (match seqOf S x with
    | some xs => .ok (.ref S.length) (S ++ [.lst xs])
    | none => .bad)
  | .all, [x] => (match listOf S x with
    | some xs => (match bls? xs with
      | some bs => .ok (.bl (bs.all id)) S
      | none => .bad)
    | none => .bad)
  | .any, [x] => (match listOf S x with
    | some xs => (match bls? xs with
      | some bs => .ok (.bl (bs.any id)) S
      | none => .bad)
    | none => .bad)
  | .gcd, [.int a, .int b] => .ok (.int ((Nat.gcd a.natAbs b.natAbs : Nat) : Int)) S
  | .sum, [x] => (match listOf S x with
    | some xs => (match ints? xs with
      | some ns => .ok (.int ns.sum) S
      | none => .bad)
    | none => .bad)
  | .str, [.int i] => if i.natAbs.log2 < 1920 then .ok (.str (toString i)) S else .bad
  | .sorted, [x] => (match listOf S x with
    | some xs => (match D.pures? xs with
      | some ps => if sortOk ps = true then .ok (.lst (srtD xs)) S else .bad
      | none => .bad)
    | none => .bad)
  | _, _ => .bad
/-- is a value of the built-in type t: int, bool, tuple, list, str -/
def tyName : D → Option String
  | .non => some "NoneType"
  | .bl _ => some "bool"
  | .int _ => some "int"
  | .str _ => some "str"
  | .tup _ => some "tuple"
  | .lst _ => some "list"
  | .ref _ => some "list"
  | _ => none
def isiD (t : String) (x : D) (S1 : Sto) : R D := match tyName x with
  | some u => (match kitB u t with
    | some b => (match x with
      | .ref m => (match S1[m]? with
        | some (.lst _) => .ok (.bl b) S1
        | _ => .bad)
      | _ => .ok (.bl b) S1)
    | none => .bad)
  | none => .bad
def joinD (x y : D) (S2 : Sto) : R D := match x, tupOrList S2 y with
  | .str z, some xs => (match strs? xs with
    | some ys => if (ys.map (·.length)).sum + ys.length * z.length ≤ 16777216 then .ok (.str (Txt.join z ys)) S2 else .bad
    | none => .bad)
  | _, _ => .bad
/-- .append -/
def append (x y : D) (S : Sto) : R D := match x with
  | .ref n => (match S[n]? with
    | some (.lst xs) => if xs.length < sizeLine then .ok .non (S.set n (.lst (xs ++ [y]))) else .bad
    | _ => .bad)
  | _ => .bad
/-- x[i] = y -/
def setAt (x i y : D) (S : Sto) : Option Sto := match x, i with
  | .ref n, .int k => (match S[n]? with
    | some (.lst xs) => (ixN xs.length k).map fun j => S.set n (.lst (xs.set j y))
    | _ => none)
  | _, _ => none
/-! a target takes a value -/
mutual
def T.put (S : Sto) : T → D → Env → Option Env
  | .n i, d, δ => some (δ.set i (some d))
  | .t ts, .tup xs, δ => T.puts S ts xs δ
  | .t ts, d, δ => match listOf S d with
    | some xs => T.puts S ts xs δ
    | none => none
def T.puts (S : Sto) : List T → List D → Env → Option Env
  | [], [], δ => some δ
  | g :: ts, x :: xs, δ => match T.put S g x δ with
    | some δ' => T.puts S ts xs δ'
    | none => none
  | _, _, _ => none
end
/-! ### what a def hands back: the store cut to its length at the entry -/
mutual
def D.under (n : Nat) : D → Bool
  | .tup xs => D.unders n xs
  | .lst xs => D.unders n xs
  | .ref m => decide (m < n)
  | _ => true
def D.unders (n : Nat) : List D → Bool
  | [] => true
  | x :: r => D.under n x && D.unders n r
end
def Ob.under (n : Nat) : Ob → Bool
  | .lst xs => D.unders n xs
  | .dct kvs => kvs.all fun q => D.under n q.1 && D.under n q.2
/-- a value, the new lists in it as they stand -/
def freeze (S : Sto) (n : Nat) : D → Option D
  | .ref m => if m < n then some (.ref m) else match S[m]? with
    | some (.lst xs) => if D.unders n xs = true then some (.lst xs) else none
    | _ => none
  | d => if D.under n d = true then some d else none
/-- what the store is behind the call: cut; keep: the one new object that is handed back stays -/
def back (keep : Bool) (n : Nat) (d : D) (S : Sto) : R D :=
  if (S.take n).all (Ob.under n) = true ∧ n ≤ S.length then
    match keep, d with
    | true, .ref m => if m < n then .bad else (match S[m]? with
      | some o => if Ob.under n o = true then .ok (.ref n) (S.take n ++ [o]) else .bad
      | none => .bad)
    | true, _ => .bad
    | false, d => match freeze S n d with
      | some d' => .ok d' (S.take n)
      | none => .bad
  else .bad
/-! ### the evaluator -/
inductive O where
  | nx (δ : Env) (S : Sto) | rt (d : D) (S : Sto) | bk (δ : Env) (S : Sto) | ct (δ : Env) (S : Sto)
  | ex (c : Nat) (x : D) (S : Sto) | bad
structure Calls where
  kn : Nat → Bool
  ca : Nat → List D → Sto → R D
  cl : Nat → E → Env → Sto → R D
/-- what is around: the exception that is handled -/
structure Ct where
  h : Option (Nat × D) := none
def evs (f : E → Sto → R D) : List E → Sto → R (List D)
  | [], S => .ok [] S
  | e :: r, S => (f e S).bind fun d S1 => (evs f r S1).bind fun ds S2 => .ok (d :: ds) S2
def evo (f : E → Sto → R D) : Option E → Sto → R (Option Int)
  | none, S => .ok none S
  | some e, S => (f e S).bind fun d S1 => match d with
    | .int i => .ok (some i) S1
    | _ => .bad
def wipeD (δ : Env) : List Nat → Env
  | [] => δ
  | v :: vs => (wipeD δ vs).set v none
/-- the store's objects that a loop walks stand -/
def stands (g : List (Nat × List D)) (S : Sto) : Bool := g.all fun q => match S[q.1]? with
  | some (.lst xs) => D.beqL xs q.2
  | _ => false
def grd (d : D) (xs : List D) : List (Nat × List D) := match d with
  | .ref n => [(n, xs)]
  | _ => []
def rngList (lo : Int) (n : Nat) : List D := (List.range n).map fun (i : Nat) => D.int (lo + (i : Int))
def rngR (x y : D) (S : Sto) : R (List D × List (Nat × List D)) := match x, y with
  | .int i, .int j => if -(2 ^ 62) ≤ i ∧ i < 2 ^ 62 ∧ -(2 ^ 62) ≤ j ∧ j < 2 ^ 62 then .ok (rngList i (j - i).toNat, []) S else .bad
  | _, _ => .bad
/-- what a value is as items -/
def seqD (x : D) (S1 : Sto) : R (List D × List (Nat × List D)) := match x with
  | .tup xs => .ok (xs, []) S1
  | .str z => .ok (z.cps.toList.map fun c => .str ⟨#[c]⟩, []) S1
  | x => (match listOf S1 x with
    | some xs => .ok (xs, grd x xs) S1
    | none => .bad)
def zipD : List D → List D → List D
  | x :: xs, y :: ys => .tup [x, y] :: zipD xs ys
  | _, _ => []
def enumD (i : Nat) : List D → List D
  | [] => []
  | x :: xs => .tup [.int i, x] :: enumD (i + 1) xs
/-- what a loop walks: the items; what of the store must stand -/
def zipR (x y : D) (S2 : Sto) : R (List D × List (Nat × List D)) := match x, y with
  | .tup xs, .tup ys => .ok (zipD xs ys, []) S2
  | x, y => (match listOf S2 x, listOf S2 y with
    | some xs, some ys => .ok (zipD xs ys, grd x xs ++ grd y ys) S2
    | _, _ => .bad)
def enumR (x : D) (S1 : Sto) : R (List D × List (Nat × List D)) := match x with
  | .tup xs => .ok (enumD 0 xs, []) S1
  | x => (match listOf S1 x with
    | some xs => .ok (enumD 0 xs, grd x xs) S1
    | none => .bad)
def lstR (x : D) (S1 : Sto) : R (List D × List (Nat × List D)) := match listOf S1 x with
  | some xs => .ok (xs, grd x xs) S1
  | none => .bad
def itemsL (f : E → Sto → R D) (it : E) (S : Sto) : R (List D × List (Nat × List D)) := (f it S).bind lstR
def items (f : E → Sto → R D) (it : E) (S : Sto) : R (List D × List (Nat × List D)) := match it with
  | .rng none b => (f b S).bind fun y S1 => rngR (.int 0) y S1
  | .rng (some a) b => (f a S).bind fun x S1 => (f b S1).bind fun y S2 => rngR x y S2
  | .zip a b => (f a S).bind fun x S1 => (f b S1).bind fun y S2 => zipR x y S2
  | .enum a => (f a S).bind fun x S1 => enumR x S1
  | e => (f e S).bind seqD
/-- a comprehension's turns: acc, what is made so far -/
def lcl (g : Sto → Bool) (f : D → Sto → R (Option D)) : List D → List D → Sto → R (List D)
  | [], acc, S => if g S = true then .ok acc S else .bad
  | x :: r, acc, S => if g S = true then (match f x S with
    | .ok none S1 => lcl g f r acc S1
    | .ok (some d) S1 => if acc.length < sizeLine then lcl g f r (acc ++ [d]) S1 else .bad
    | _ => .bad) else .bad
def tst (S : Sto) (d : D) : R Bool := match truth S d with
  | some b => .ok b S
  | none => .bad
/-- an expression as a test -/
def tests (f : E → Sto → R D) : Nat → E → Sto → R Bool
  | 0, _, _ => .bad
  | n + 1, .and a b, S => (tests f n a S).bind fun c S1 => if c = true then tests f n b S1 else .ok false S1
  | n + 1, .or a b, S => (tests f n a S).bind fun c S1 => if c = true then .ok true S1 else tests f n b S1
  | n + 1, .nt a, S => (tests f n a S).bind fun c S1 => .ok (!c) S1
  | _ + 1, .ite _ _ _, _ => .bad
  | _ + 1, e, S => (f e S).bind fun d S1 => tst S1 d
def cmpR (o : CO) (x y : D) (S : Sto) : R D := match cmpop o x y S with
  | some b => .ok (.bl b) S
  | none => .bad
/-- a turn of a comprehension -/
def turnG (tq : Option (Env → Sto → R Bool)) (fe : Env → Sto → R D) (δ' : Env) (S2 : Sto) : R (Option D) := match tq with
  | none => (fe δ' S2).bind fun d S3 => .ok (some d) S3
  | some ft => (ft δ' S2).bind fun k S3 => if k = true then (fe δ' S3).bind fun d S4 => .ok (some d) S4 else .ok none S3
def turnF (t : T) (tq : Option (Env → Sto → R Bool)) (fe : Env → Sto → R D) (own : List Nat) (δ : Env) (x : D) (S2 : Sto) : R (Option D) := match T.put S2 t x (wipeD δ own) with
  | some δ' => turnG tq fe δ' S2
  | none => .bad
def lcF (m : Bool) (ds : List D) (S3 : Sto) : R D := if m = true then .ok (.ref S3.length) (S3 ++ [.lst ds]) else .ok (.lst ds) S3
def lcR (fi : Env → Sto → R (List D × List (Nat × List D))) (m : Bool) (t : T) (tq : Option (Env → Sto → R Bool)) (fe : Env → Sto → R D) (own : List Nat) (δ : Env) (S : Sto) : R D :=
  (fi δ S).bind fun q S1 => (lcl (stands q.2) (turnF t tq fe own δ) q.1 [] S1).bind (lcF m)
def isE : E → Bool
  | .rng _ _ => false
  | .zip _ _ => false
  | .enum _ => false
  | _ => true
def ev (c : Calls) (G : Nat → Nat → Option Bool) : Nat → Ct → E → Env → Sto → R D
  | 0, _, _, _, _ => .bad
  | n + 1, cx, e, δ, S => match e with
    | .v i => (match δ[i]? with
      | some (some d) => .ok d S
      | _ => .bad)
    | .k d => .ok d S
    | .g i => .ok (.glo i) S
    | .bin o a b => (ev c G n cx a δ S).bind fun x S1 => (ev c G n cx b δ S1).bind fun y S2 => binop o x y S2
    | .cmp o a b => (ev c G n cx a δ S).bind fun x S1 => (ev c G n cx b δ S1).bind fun y S2 => cmpR o x y S2
    | .chn o o' a b d => (ev c G n cx a δ S).bind fun x S1 => (ev c G n cx b δ S1).bind fun y S2 => match cmpop o x y S2 with
      | some true => (ev c G n cx d δ S2).bind fun z S3 => cmpR o' y z S3
      | some false => .ok (.bl false) S2
      | none => .bad
    | .neg a => (ev c G n cx a δ S).bind fun x S1 => match x with
      | .int i => .ok (.int (-i)) S1
      | _ => .bad
    | .nt a => (ev c G n cx a δ S).bind fun x S1 => (tst S1 x).bind fun b S2 => .ok (.bl (!b)) S2
    | .and a b => (ev c G n cx a δ S).bind fun x S1 => (tst S1 x).bind fun k S2 => if k = true then ev c G n cx b δ S2 else .ok x S2
    | .or a b => (ev c G n cx a δ S).bind fun x S1 => (tst S1 x).bind fun k S2 => if k = true then .ok x S2 else ev c G n cx b δ S2
    | .ite t a b => (tests (fun e S => ev c G n cx e δ S) n t S).bind fun k S1 => if k = true then ev c G n cx a δ S1 else ev c G n cx b δ S1
    | .tup es => (evs (fun e S => ev c G n cx e δ S) es S).bind fun ds S1 => if ds.length ≤ sizeLine then .ok (.tup ds) S1 else .bad
    | .lst es => (evs (fun e S => ev c G n cx e δ S) es S).bind fun ds S1 => if ds.length ≤ sizeLine then .ok (.lst ds) S1 else .bad
    | .nlst es => (evs (fun e S => ev c G n cx e δ S) es S).bind fun ds S1 => if ds.length ≤ sizeLine then .ok (.ref S1.length) (S1 ++ [.lst ds]) else .bad
    | .ix a i => (ev c G n cx a δ S).bind fun x S1 => (ev c G n cx i δ S1).bind fun y S2 => index x y S2
    | .sl a lo hi => (ev c G n cx a δ S).bind fun x S1 => (evo (fun e S => ev c G n cx e δ S) lo S1).bind fun l S2 => (evo (fun e S => ev c G n cx e δ S) hi S2).bind fun h S3 => slice x l h S3
    | .rev a => (ev c G n cx a δ S).bind fun x S1 => revd x S1
    | .call f es => if cx.h.isNone = true ∧ c.kn f = true then (evs (fun e S => ev c G n cx e δ S) es S).bind fun ds S1 => c.ca f ds S1 else .bad
    | .callv i es => if cx.h.isNone = true then (match δ[i]? with
      | some (some (.glo f)) => if c.kn f = true then (evs (fun e S => ev c G n cx e δ S) es S).bind fun ds S1 => c.ca f ds S1 else .bad
      | _ => .bad) else .bad
    | .lam f b => if cx.h.isNone = true then c.cl f b δ S else .bad
    | .bi b es => if cx.h.isNone = true then (evs (fun e S => ev c G n cx e δ S) es S).bind fun ds S1 => bins b ds S1 else .bad
    | .isi a t => if cx.h.isNone = true then (ev c G n cx a δ S).bind fun x S1 => isiD t x S1 else .bad
    | .exi k => (match cx.h with
      | some (j, _) => (match G j k with
        | some b => .ok (.bl b) S
        | none => .bad)
      | none => .bad)
    | .exf => (match cx.h with
      | some (_, x) => .ok x S
      | none => .bad)
    | .app o e => (ev c G n cx o δ S).bind fun x S1 => (match x with
      | .ref m => (ev c G n cx e δ S1).bind fun y S2 => append (.ref m) y S2
      | _ => .bad)
    | .join a b => (ev c G n cx a δ S).bind fun x S1 => (match x with
      | .str z => (ev c G n cx b δ S1).bind fun y S2 => joinD (.str z) y S2
      | _ => .bad)
    | .lc m elt tg it t own => lcR (fun δ S => if cx.h.isNone = true then items (fun e S => ev c G n cx e δ S) it S else itemsL (fun e S => ev c G n cx e δ S) it S) m tg
      (t.map fun t δ S => tests (fun e S => ev c G n cx e δ S) n t S) (fun δ S => ev c G n cx elt δ S) own δ S
    | _ => .bad
def O.ofR {α : Type} (r : R α) (f : α → Sto → O) : O := match r with
  | .ok a S => f a S
  | .ex c x S => .ex c x S
  | .bad => .bad
def exs (f : S → Env → Sto → O) : List S → Env → Sto → O
  | [], δ, S => .nx δ S
  | s :: r, δ, S => match f s δ S with
    | .nx δ' S' => exs f r δ' S'
    | o => o
def forl (g : Sto → Bool) (f : D → Env → Sto → O) : List D → Env → Sto → O
  | [], δ, S => if g S = true then .nx δ S else .bad
  | x :: r, δ, S => if g S = true then (match f x δ S with
    | .nx δ' S' => forl g f r δ' S'
    | .ct δ' S' => forl g f r δ' S'
    | .bk δ' S' => .nx δ' S'
    | o => o) else .bad
def whl (t : Env → Sto → R Bool) (f : Env → Sto → O) : Nat → Env → Sto → O
  | 0, _, _ => .bad
  | n + 1, δ, S => match t δ S with
    | .ok true S1 => (match f δ S1 with
      | .nx δ' S' => whl t f n δ' S'
      | .ct δ' S' => whl t f n δ' S'
      | .bk δ' S' => .nx δ' S'
      | o => o)
    | .ok false S1 => .nx δ S1
    | .ex c x S1 => .ex c x S1
    | .bad => .bad
/-- the fuel of expressions; the most turns of a while -/
abbrev AF : Nat := 64
abbrev WF : Nat := 1000000000
def ex (c : Calls) (G : Nat → Nat → Option Bool) : Nat → Ct → S → Env → Sto → O
  | 0, _, _, _, _ => .bad
  | n + 1, cx, s, δ, S => match s with
    | .asg t e => .ofR (ev c G AF cx e δ S) fun d S1 => match T.put S1 t d δ with
      | some δ' => .nx δ' S1
      | none => .bad
    | .setix o i e => .ofR (ev c G AF cx e δ S) fun y S1 => .ofR (ev c G AF cx o δ S1) fun x S2 => .ofR (ev c G AF cx i δ S2) fun j S3 => match setAt x j y S3 with
      | some S4 => .nx δ S4
      | none => .bad
    | .ex e => .ofR (ev c G AF cx e δ S) fun _ S1 => .nx δ S1
    | .ite t a b => .ofR (tests (fun e S => ev c G AF cx e δ S) AF t S) fun k S1 => if k = true then exs (ex c G n cx) a δ S1 else exs (ex c G n cx) b δ S1
    | .for_ t it b => if cx.h.isNone = true then .ofR (items (fun e S => ev c G AF cx e δ S) it S) fun q S1 => forl (stands q.2) (fun x δ S => match T.put S t x δ with
      | some δ' => exs (ex c G n cx) b δ' S
      | none => .bad) q.1 δ S1 else .bad
    | .whl t b => if cx.h.isNone = true then whl (fun δ S => tests (fun e S => ev c G AF cx e δ S) AF t S) (fun δ S => exs (ex c G n cx) b δ S) WF δ S else .bad
    | .ret none => .rt .non S
    | .ret (some e) => .ofR (ev c G AF cx e δ S) fun d S1 => .rt d S1
    | .brk => .bk δ S
    | .cnt => .ct δ S
    | .pas => .nx δ S
    | .rai k => if cx.h.isNone = true then .ex k .non S else .bad
    | .no => .bad
    | .tr b k i h => if cx.h.isNone = true then (match exs (ex c G n cx) b δ S with
      | .ex j x S1 => (match G j k with
        | some true => exs (ex c G n { h := some (j, x) }) h (List.replicate δ.length none) S1
        | some false => .ex j x S1
        | none => .bad)
      | o => o) else .bad
/-- a def: its parameters' number, its slots' number, what it hands back is kept or frozen, its body -/
structure FnI where
  ps : Nat
  ns : Nat
  keep : Bool := false
  body : List S
def endO (keep : Bool) (n : Nat) (o : O) : R D := match o with
  | .rt d S => back keep n d S
  | .nx _ S => back keep n .non S
  | .ex c x S => if (S.take n).all (Ob.under n) = true ∧ n ≤ S.length ∧ D.under n x = true then .ex c x (S.take n) else .bad
  | _ => .bad
/-- a def that calls the closure it was given: within a try, ahead of all else; the class, the suite, what follows -/
structure ClI where
  c : Nat
  ns : Nat
  suite : List S
  rest : List S
def clO (n : Nat) (o : O) : R D := match o with
  | .rt d S => (match back false n d S with
    | .ok d' S' => .ok d' S'
    | _ => .bad)
  | _ => .bad
/-- no calls -/
def calls0 : Calls := ⟨fun _ => false, fun _ _ _ => .bad, fun _ _ _ _ => .bad⟩
def calls (Γ : Nat → Option FnI) (Λ : Nat → Option ClI) (G : Nat → Nat → Option Bool) : Nat → Calls
  | 0 => calls0
  | n + 1 => ⟨fun f => (Γ f).isSome, fun f ds S => match Γ f with
      | some d => if ds.length = d.ps then endO d.keep S.length (exs (ex (calls Γ Λ G n) G AF {}) d.body (ds.map some ++ List.replicate (d.ns - ds.length) none) S) else .bad
      | none => .bad,
    fun f b δ S => match Λ f with
      | some d => (match ev (calls Γ Λ G n) G AF {} b δ S with
        | .ok _ S1 => clO S.length (exs (ex calls0 G AF {}) d.rest (List.replicate d.ns none) S1)
        | .ex j x S1 => (match G j d.c with
          | some true => clO S.length (exs (ex calls0 G AF { h := some (j, x) }) d.suite (List.replicate d.ns none) S1)
          | _ => .bad)
        | .bad => .bad)
      | none => .bad⟩
end IT
end
section
set_option Elab.async false
set_option linter.all false
set_option maxRecDepth 100000
set_option autoImplicit false
namespace IT
open PySem PySem.Spec PyProof.Rows L2 HT
section
variable {prog : Program} {w : World} {A : Around} {E : Value → Shared → Prop} {s : Shared}
/-! ### t[::-1] of a tuple -/
theorem sliceApplied_rev {sl : Addr} {vs : Value} {n : Nat} {Q : Int × Int × Nat → Shared → Prop} (hs : s.heap.IsSliceOf sl .none .none vs) (ps : IsPart vs (some (-1)))
    (h : Q ((n : Int) - 1, -1, n) s) : wpAny (model prog w) A (Builtin.Slice.sliceApplied (.ref sl) (pure (n : Int))) Q E s := by
  obtain ⟨os, hos, hcs, hds⟩ := id hs
  unfold Builtin.Slice.sliceApplied Builtin.Slice.sliceFields
  refine wpAny_bind (wpAny_bind (wpAny_field hos hds (x := .none) rfl (wpAny_bind (wpAny_field hos hds (x := .none) rfl (wpAny_bind (wpAny_field hos hds (x := vs) rfl (wpAny_pure ?_)))))))
  refine wpAny_bind (slicePart_ ps ?_)
  show wpAny _ _ (if ((-1 : Int) == 0) = true then _ else _) _ _ s
  rw [if_neg (by decide)]
  refine wpAny_bind (slicePart_none (wpAny_bind (slicePart_none (wpAny_bind (wpAny_pure ?_)))))
  have e1 : Builtin.Slice.sliceAdjust none none (-1) (n : Int) = ((n : Int) - 1, -1) := by
    unfold Builtin.Slice.sliceAdjust
    simp
  have e2 : Builtin.Slice.slicePlaces ((n : Int) - 1) (-1) (-1) = n := by
    unfold Builtin.Slice.slicePlaces
    rw [if_neg (by omega)]
    by_cases h : (n : Int) - 1 > -1
    · rw [if_pos h]
      simp only [Int.neg_neg, Int.ediv_one]
      omega
    · rw [if_neg h]
      omega
  show wpAny _ _ (match Builtin.Slice.sliceAdjust none none (-1) (n : Int) with | (lo, hi) => pure (lo, (-1 : Int), Builtin.Slice.slicePlaces lo hi (-1))) _ _ s
  rw [e1]
  show wpAny _ _ (pure ((n : Int) - 1, (-1 : Int), Builtin.Slice.slicePlaces ((n : Int) - 1) (-1) (-1))) _ _ s
  rw [e2]
  exact wpAny_pure h
theorem fm_congr {α β : Type} {f g : α → Option β} : ∀ {l : List α}, (∀ k ∈ l, f k = g k) → l.filterMap f = l.filterMap g
  | [], _ => rfl
  | a :: l, h => by rw [List.filterMap_cons, List.filterMap_cons, h a List.mem_cons_self, fm_congr fun k hk => h k (List.mem_cons_of_mem _ hk)]
theorem pick_rev (xs : Array Value) : ((List.range xs.size).filterMap fun (k : Nat) => xs[((xs.size : Int) - 1 + (k : Int) * -1).toNat]?).toArray = xs.toList.reverse.toArray := by
  have e : ((List.range xs.size).filterMap fun (k : Nat) => xs[((xs.size : Int) - 1 + (k : Int) * -1).toNat]?) = ((List.range xs.size).map fun k => xs.size - 1 - k).filterMap (xs[·]?) := by
    rw [List.filterMap_map]
    refine fm_congr fun k hk => ?_
    have hk' := List.mem_range.mp hk
    have : ((xs.size : Int) - 1 + (k : Int) * -1).toNat = xs.size - 1 - k := by omega
    rw [this]
    rfl
  rw [e, PySem.W.krv_range, List.filterMap_reverse, PySem.W.krv_all]
theorem getItem_tuple_rev {t sl : Addr} {items : Array Value} {vs : Value} {Q : Value → Shared → Prop} (ht : IsTup s.heap t items) (hs : s.heap.IsSliceOf sl .none .none vs) (ps : IsPart vs (some (-1)))
    (h : Q (.ref s.heap.objs.size) { s with heap := s.heap.push { cls := .type "tuple", data := .seq items.toList.reverse.toArray } })
    (hsz : items.size ≤ sizeLine) : wpAny (model prog w) A (getItem (.ref t) (.ref sl)) Q E s := by
  have htake : sizeOk (.seq items.toList.reverse.toArray) := by
    show items.toList.reverse.toArray.size ≤ sizeLine
    simpa using hsz
  obtain ⟨os, hos, hcs, hds⟩ := id hs
  have hTs : s.TypeIs (.ref sl) "slice" := ⟨os, hos, hcs⟩
  unfold getItem
  try with_reducible refine wpAny_holding ?_
  first | refine wpAny_bind (wpAny_pure ?_) | skip
  refine wpAny_bind (wpAny_sequenceKey ht.typeIs (by decide) ?_)
  refine wpAny_bind (wpAny_callSpecial?_slot (name := Str.ofString "__getitem__") ht.typeIs PyProof.Rows.slot_tuple_getitem
    (wpAny_call_entry PyProof.Rows.slot_tuple_getitem ht.typeIs entry_tuple_getitem ?_ (args_tuple_getitem _ _)))
  show wpAny _ _ (Builtin.Tuple.tupleItemsOf (.ref t) >>= _) _ _ s
  refine wpAny_bind (tupleItemsOf_ ht ?_)
  refine wpAny_bind (wpAny_typeOf hTs ?_)
  rw [if_pos (by decide)]
  refine wpAny_bind (sliceApplied_rev hs ps ?_)
  show wpAny _ _ (if (((items.size : Int) - 1) == 0 && (-1 : Int) == 1 && items.size == items.size) = true then _ else _) _ _ s
  rw [if_neg (by simp), pick_rev]
  first
    | exact wpAny_bind (m := Builtin.Tuple.tupleExact _) (wpAny_newObj_type (wpAny_pure ⟨_, rfl, wpAny_pure h⟩) htake)
    | exact wpAny_bind (m := Builtin.Tuple.tupleExact _) (wpAny_newObj_type (wpAny_bind (wpAny_pure (wpAny_pure ⟨_, rfl, wpAny_pure h⟩))) htake)
    | exact wpAny_bind (wpAny_bind (m := Builtin.Tuple.tupleExact _) (wpAny_newObj_type (wpAny_pure (wpAny_pure ⟨_, rfl, wpAny_pure h⟩)) htake))
    | exact wpAny_bind (wpAny_bind (m := Builtin.Tuple.tupleExact _) (wpAny_newObj_type (wpAny_pure ⟨_, rfl, wpAny_pure h⟩) htake))
end
section
variable {X : Cx}
def tRevT (K : PySem.W.Frag) (te : TE) : TE := fun σ H Q => te σ H fun x H1 => ∃ a xs, x = .ref a ∧ SqT K H1 a xs ∧ ∀ p, H1 p = none → Q (.ref p) (upd H1 p (.tup xs.reverse))
theorem pe_revT {e : Expr} {te : TE} {k : Nat} {p1 p2 p3 pos : Pos} (he : PE X e te) : PE X (.Subscript e (.Slice none none (some (.UnaryOp .USub (.Constant (.int 1) k p1) p2)) p3) pos) (tRevT X.K te) := by
  refine ⟨fun pins s σ H Q I h => ?_⟩
  refine Subscript_ (thn (he.run pins s σ H _ I h) fun v s1 ⟨x, H1, I1, r1, q1⟩ => ?_)
  obtain ⟨a, xs, ex, hx, q⟩ := q1
  subst ex
  cases r1
  have hst : PO X (some (.UnaryOp .USub (.Constant (.int 1) k p1) p2)) (tPart (tUn (rU fun i => .int (-i)) (tC (.int 1)))) := po_some (pe_un un_neg pe_int)
  refine wpAny_Slice (thn (po_none.run pins s1 σ H1 (fun o H2 => o = none ∧ H2 = H1) I1 ⟨rfl, rfl⟩) fun vl s2 ⟨l, H2, I2, pl, el, e2⟩ => ?_)
  subst el e2
  refine thn (po_none.run pins s2 σ H2 (fun o H3 => o = none ∧ H3 = H2) I2 ⟨rfl, rfl⟩) fun vu s3 ⟨u, H3, I3, pu, eu, e3⟩ => ?_
  subst eu e3
  refine thn (hst.run pins s3 σ H3 (fun o H4 => o = some (-1) ∧ H4 = H3) I3 ⟨1, rfl, -1, rfl, rfl, rfl⟩) fun vs s4 ⟨o, H4, I4, ps, eo, e4⟩ => ?_
  subst eo e4
  have I5 : Inv X pins σ H4 { s4 with heap := s4.heap.push { cls := .type "slice", data := .fields #[vl, vu, vs] } } := I4.kept (t' := s4.toks) fun b ob q => Heap.get?_push_of_some _ q
  obtain ⟨its, r, ht, hz⟩ := I5.tuple hx
  have hlen := r.length
  cases pl
  cases pu
  show wpAny (model X.prog X.w) X.A (subscriptTail e (.Slice none none (some (.UnaryOp .USub (.Constant (.int 1) k p1) p2)) p3) (.ref a) (.ref s4.heap.objs.size)) (EP X pins σ Q) X.xe { s4 with heap := s4.heap.push { cls := .type "slice", data := .fields #[.none, .none, vs] } }
  refine tail_any (ops := [.ref a, .ref s4.heap.objs.size]) ht.typeIs (PyProof.Rows.slot_tuple_getitem.lookup) ?_ (by with_unfolding_all rfl)
  refine getItem_tuple_rev ht (Heap.IsSliceOf.new _ .none .none vs) ps ?_ (by rw [List.size_toArray]; omega)
  refine ⟨.ref _, _, I5.laid (t' := s4.toks) (o := .tup xs.reverse) (fun b ob q => Heap.get?_push_of_some _ q) (Nat.le_refl _) ?_, rfl, q _ (I5.hok.fresh (Nat.le_refl _))⟩
  exact ⟨by rw [List.length_reverse]; exact hz, _, r.reverse, IsTup.new _ _⟩
end
/-! ### t * 1, () * k -/
theorem tuple_mulS (l : Addr) (items : Array Value) (n : Nat) (dd : Option Addr) (sl : Array (Option Value)) (x : Int) (u : Tok) (c0 : (decide (x < -(2 ^ 63)) || decide (x ≥ 2 ^ 63)) = false) (c1 : (items.isEmpty || x == 1) = true) :
    Meets (Builtin.«tuple.__mul__» ⟨[.ref l, .int x u], []⟩) (fun _ R s => s.heap.get? l = some { cls := .type "tuple", dict := dd, data := .seq items n, slots := sl } ∧
      R (.ok (.ret (Value.ref l))) s) :=
  .of_wp fun prog w A R s h => by
    obtain ⟨hp, g, d, tk, os⟩ := s
    obtain ⟨hl, h⟩ := h
    have f1 := AutoSeq1.idx_int
    wp_walk using AutoSeq1.wpAny_loadPart' hl
    repeat (first
      | (refine wpAny_ite_false (decide_eq_false (by rw [c0]; exact Bool.false_ne_true)) ?_; wp_walk using AutoSeq1.wpAny_loadPart' hl)
      | (refine wpAny_ite_true (decide_eq_true c1) ?_; wp_walk using AutoSeq1.wpAny_loadPart' hl))
    exact ⟨_, rfl, h⟩
theorem tuple_mul0 (l : Addr) (items : Array Value) (n : Nat) (dd : Option Addr) (sl : Array (Option Value)) (x : Int) (u : Tok) (c0 : (decide (x < -(2 ^ 63)) || decide (x ≥ 2 ^ 63)) = false) (c1 : (items.isEmpty || x == 1) = false) (c2 : (decide (x ≤ 0) || items.isEmpty) = true) :
    Meets (Builtin.«tuple.__mul__» ⟨[.ref l, .int x u], []⟩) (fun _ R s => s.heap.get? l = some { cls := .type "tuple", dict := dd, data := .seq items n, slots := sl } ∧
      R (.ok (.ret (Value.ref s.heap.objs.size))) { s with heap := s.heap.push { cls := Value.type "tuple", data := Data.seq #[] }, toks := s.toks }) :=
  .of_wp fun prog w A R s h => by
    obtain ⟨hp, g, d, tk, os⟩ := s
    obtain ⟨hl, h⟩ := h
    have f1 := AutoSeq1.idx_int
    wp_walk using AutoSeq1.wpAny_loadPart' hl
    repeat (first
      | (refine wpAny_ite_false (decide_eq_false (by rw [c0]; exact Bool.false_ne_true)) ?_; wp_walk using AutoSeq1.wpAny_loadPart' hl)
      | (refine wpAny_ite_false (decide_eq_false (by rw [c1]; exact Bool.false_ne_true)) ?_; wp_walk using AutoSeq1.wpAny_loadPart' hl)
      | (refine wpAny_ite_true (decide_eq_true c2) ?_; wp_walk using AutoSeq1.wpAny_loadPart' hl)
      | (refine wpAny_ite_false (decide_eq_false (Nat.not_lt.mpr (Nat.zero_le _))) ?_; wp_walk using AutoSeq1.wpAny_loadPart' hl))
    exact ⟨_, rfl, h⟩
section
variable {X : Cx}
def rRep0 (K : PySem.W.Frag) : R2 := fun x y H Q => ∃ l k xs, x = .ref l ∧ y = .int k ∧ SqT K H l xs ∧ xs ≠ [] ∧ -(2 ^ 63) ≤ k ∧ k ≤ 0 ∧ ∀ p, H p = none → Q (.ref p) (upd H p (.tup []))
theorem op_rep0 : OpR X (binaryOp .Mult) (rRep0 X.K) := by
  intro pins s σ H x y v u Q I rx ry h
  obtain ⟨l, k, xs, rfl, rfl, hT, hne, h1, h2, q⟩ := h
  cases rx
  obtain ⟨t, rfl⟩ := ry
  obtain ⟨its, r, ⟨⟨cls, dd, data, sl⟩, ho, hc, n, hd⟩, hs⟩ := I.tuple hT
  simp only at hc hd
  subst hc hd
  have c0 : (decide (k < -(2 ^ 63)) || decide (k ≥ 2 ^ 63)) = false := by
    rw [decide_eq_false (by omega), decide_eq_false (by omega)] <;> rfl
  have hi : its.toArray.isEmpty = false := by
    cases its with
    | nil => cases r; exact absurd rfl hne
    | cons a b => rfl
  have c1 : (its.toArray.isEmpty || k == 1) = false := by
    rw [hi, Bool.false_or]
    exact beq_eq_false_iff_ne.mpr (by omega)
  have c2 : (decide (k ≤ 0) || its.toArray.isEmpty) = true := by
    rw [decide_eq_true h2, Bool.true_or]
  refine wpAny_binaryOp_repeat_ref (T := "tuple") (U := "int") (by decide) ⟨_, ho, rfl⟩ (fun s' => typeIs_int s' k t) noFill_tuple_mul PySem.F.fills_int_mul PySem.F.slot_int_rmul repeat_tuple PySem.F.slot_int_index.lookup
    (call_meets PySem.F.slot_int_rmul (typeIs_int s k t) PySem.F.entry_int_rmul (PySem.F.args_int_rmul_2 _ _) (int_rmul_tuple k t l its.toArray n dd sl)
      ⟨ho, rfl, ⟨_, ho, rfl⟩, call_meets PySem.F.slot_tuple_mul ⟨_, ho, rfl⟩ PySem.F.entry_tuple_mul (PySem.F.args_tuple_mul_2 _ _) (tuple_mul0 l its.toArray n dd sl k t c0 c1 c2) ⟨ho, ?_⟩⟩)
  refine ⟨.ref s.heap.objs.size, _, I.laid (t' := s.toks) (o := .tup []) (fun b ob q => Heap.get?_push_of_some _ q) (Nat.le_refl _) ?_, rfl, q _ (I.hok.fresh (Nat.le_refl _))⟩
  exact ⟨Nat.zero_le _, _, .nil, IsTup.new _ _⟩
def rRep1 (K : PySem.W.Frag) : R2 := fun x y H Q => ∃ l k xs, x = .ref l ∧ y = .int k ∧ SqT K H l xs ∧ -(2 ^ 63) ≤ k ∧ k < 2 ^ 63 ∧ (xs = [] ∨ k = 1) ∧ Q (.ref l) H
theorem op_rep1 : OpR X (binaryOp .Mult) (rRep1 X.K) := by
  intro pins s σ H x y v u Q I rx ry h
  obtain ⟨l, k, xs, rfl, rfl, hT, h1, h2, hz, q⟩ := h
  cases rx
  obtain ⟨t, rfl⟩ := ry
  obtain ⟨its, r, ⟨⟨cls, dd, data, sl⟩, ho, hc, n, hd⟩, hs⟩ := I.tuple hT
  simp only at hc hd
  subst hc hd
  have c0 : (decide (k < -(2 ^ 63)) || decide (k ≥ 2 ^ 63)) = false := by
    rw [decide_eq_false (by omega), decide_eq_false (by omega)] <;> rfl
  have c1 : (its.toArray.isEmpty || k == 1) = true := by
    rcases hz with rfl | rfl
    · cases r; rfl
    · simp
  exact wpAny_binaryOp_repeat_ref (T := "tuple") (U := "int") (by decide) ⟨_, ho, rfl⟩ (fun s' => typeIs_int s' k t) noFill_tuple_mul PySem.F.fills_int_mul PySem.F.slot_int_rmul repeat_tuple PySem.F.slot_int_index.lookup
    (call_meets PySem.F.slot_int_rmul (typeIs_int s k t) PySem.F.entry_int_rmul (PySem.F.args_int_rmul_2 _ _) (int_rmul_tuple k t l its.toArray n dd sl)
      ⟨ho, rfl, ⟨_, ho, rfl⟩, call_meets PySem.F.slot_tuple_mul ⟨_, ho, rfl⟩ PySem.F.entry_tuple_mul (PySem.F.args_tuple_mul_2 _ _) (tuple_mulS l its.toArray n dd sl k t c0 c1) ⟨ho, ⟨.ref l, H, I, rfl, q⟩⟩⟩)
end
end IT
end
section
set_option Elab.async false
set_option linter.all false
set_option maxRecDepth 100000
set_option autoImplicit false
namespace IT
open PySem PySem.Spec PyProof.Rows L2
open LamX (Tabs TabS CodeO)

/-- what is fixed: the written part, where the globals stand, the tables of code objects -/
structure Cfg where
  K : PySem.W.Frag
  ga : Nat → Addr
  T : List (Addr × Str)
  xf : Nat → Option Str
  J : Option (Nat × V)
  av : List Addr
def TupAt (K : PySem.W.Frag) (μ : List Addr) (H : Hp) (a : Addr) (xs : List V) : Prop :=
  (H a = some (.tup xs) ∧ a ∉ μ) ∨ ∃ (o : Obj) (its : Array Value) (n : Nat), K.lookup a = some o ∧ o.cls = .type "tuple" ∧ o.data = .seq its n ∧ its.size ≤ sizeLine ∧ Vals xs its.toList
def ScrAt (K : PySem.W.Frag) (μ : List Addr) (H : Hp) (a : Addr) (xs : List V) : Prop :=
  (∃ o, H a = some (.frz o (.lst xs)) ∧ a ∉ μ) ∨ ∃ (o : Obj) (its : Array Value) (n : Nat), K.lookup a = some o ∧ o.cls = .type "list" ∧ o.dict = none ∧ o.data = .seq its n ∧ its.size ≤ sizeLine ∧ Vals xs its.toList
theorem TupAt.seq {K : PySem.W.Frag} {μ : List Addr} {H : Hp} {a : Addr} {xs : List V} (h : TupAt K μ H a xs) : SqT K H a xs := by
  rcases h with h | h
  · exact .inl (.inl h.1)
  · exact .inr h
theorem ScrAt.seq {K : PySem.W.Frag} {μ : List Addr} {H : Hp} {a : Addr} {xs : List V} (h : ScrAt K μ H a xs) : SqL K H a xs := by
  rcases h with ⟨o, h, _⟩ | h
  · exact .inl (.inr ⟨o, h⟩)
  · exact .inr h
mutual
inductive Rep (C : Cfg) (μ : List Addr) (H : Hp) : V → D → Prop
  | non : Rep C μ H .non .non
  | bl (b : Bool) : Rep C μ H (.bl b) (.bl b)
  | int (i : Int) : Rep C μ H (.int i) (.int i)
  | str (x : Str) : Rep C μ H (.str x) (.str x)
  | ty (n : String) : Rep C μ H (.ty n) (.ty n)
  | glo (i : Nat) : Rep C μ H (.ref (C.ga i)) (.glo i)
  | ref {n : Nat} {a : Addr} : μ[n]? = some a → Rep C μ H (.ref a) (.ref n)
  | tup {a : Addr} {xs : List V} {ds : List D} : TupAt C.K μ H a xs → RepL C μ H xs ds → Rep C μ H (.ref a) (.tup ds)
  | lst {a : Addr} {xs : List V} {ds : List D} : H a = some (.lst xs) → a ∉ μ → a ∉ C.av → RepL C μ H xs ds → Rep C μ H (.ref a) (.lst ds)
  | scr {a : Addr} {ns : List Int} : ScrAt C.K μ H a (ns.map V.int) → Rep C μ H (.ref a) (.scr ns)
inductive RepL (C : Cfg) (μ : List Addr) (H : Hp) : List V → List D → Prop
  | nil : RepL C μ H [] []
  | cons {v : V} {vs : List V} {d : D} {ds : List D} : Rep C μ H v d → RepL C μ H vs ds → RepL C μ H (v :: vs) (d :: ds)
end
structure Ext (T : List (Addr × Str)) (μ : List Addr) (H : Hp) (μ' : List Addr) (H' : Hp) : Prop where
  pre : ∃ ν, μ' = μ ++ ν
  old : ∀ a o, H a = some o → a ∉ μ → (∀ ps, o ≠ .tbl ps) → H' a = some o ∧ a ∉ μ'
  tabs : Tabs T H → Tabs T H'
theorem Ext.refl (T : List (Addr × Str)) (μ : List Addr) (H : Hp) : Ext T μ H μ H := ⟨⟨[], by simp⟩, fun a o h n _ => ⟨h, n⟩, fun h => h⟩
theorem Ext.trans {T : List (Addr × Str)} {μ μ1 μ2 : List Addr} {H H1 H2 : Hp} (a : Ext T μ H μ1 H1) (b : Ext T μ1 H1 μ2 H2) : Ext T μ H μ2 H2 := by
  obtain ⟨⟨ν1, e1⟩, o1, t1⟩ := a
  obtain ⟨⟨ν2, e2⟩, o2, t2⟩ := b
  exact ⟨⟨ν1 ++ ν2, by rw [e2, e1, List.append_assoc]⟩, fun c o h n nt => let ⟨h1, n1⟩ := o1 c o h n nt; o2 c o h1 n1 nt, fun h => t2 (t1 h)⟩
theorem Ext.get {T : List (Addr × Str)} {μ μ' : List Addr} {H H' : Hp} (e : Ext T μ H μ' H') {n : Nat} {a : Addr} (h : μ[n]? = some a) : μ'[n]? = some a := by
  obtain ⟨⟨ν, rfl⟩, _, _⟩ := e
  rw [List.getElem?_append_left (List.getElem?_eq_some_iff.mp h).1]
  exact h
theorem Ext.tup {K : PySem.W.Frag} {T : List (Addr × Str)} {μ μ' : List Addr} {H H' : Hp} (e : Ext T μ H μ' H') {a : Addr} {xs : List V} (h : TupAt K μ H a xs) : TupAt K μ' H' a xs := by
  rcases h with ⟨h, n⟩ | h
  · exact .inl (e.old a _ h n (fun ps z => by cases z))
  · exact .inr h
theorem Ext.scr {K : PySem.W.Frag} {T : List (Addr × Str)} {μ μ' : List Addr} {H H' : Hp} (e : Ext T μ H μ' H') {a : Addr} {xs : List V} (h : ScrAt K μ H a xs) : ScrAt K μ' H' a xs := by
  rcases h with ⟨o, h, n⟩ | h
  · exact .inl ⟨o, e.old a _ h n (fun ps z => by cases z)⟩
  · exact .inr h
mutual
theorem Rep.ext {C : Cfg} {μ μ' : List Addr} {H H' : Hp} (e : Ext C.T μ H μ' H') : ∀ {d : D} {v : V}, Rep C μ H v d → Rep C μ' H' v d
  | .non, _, h => by cases h; exact .non
  | .bl _, _, h => by cases h; exact .bl _
  | .int _, _, h => by cases h; exact .int _
  | .str _, _, h => by cases h; exact .str _
  | .ty _, _, h => by cases h; exact .ty _
  | .glo _, _, h => by cases h; exact .glo _
  | .ref _, _, h => by
    cases h with
    | ref h => exact .ref (e.get h)
  | .tup ds, _, h => by
    cases h with
    | tup h r => exact .tup (e.tup h) (RepL.ext e r)
  | .lst ds, _, h => by
    cases h with
    | lst h n v r =>
      obtain ⟨h1, n1⟩ := e.old _ _ h n (fun ps z => by cases z)
      exact .lst h1 n1 v (RepL.ext e r)
  | .scr _, _, h => by
    cases h with
    | scr h => exact .scr (e.scr h)
theorem RepL.ext {C : Cfg} {μ μ' : List Addr} {H H' : Hp} (e : Ext C.T μ H μ' H') : ∀ {ds : List D} {vs : List V}, RepL C μ H vs ds → RepL C μ' H' vs ds
  | [], _, h => by cases h; exact .nil
  | d :: ds, _, h => by
    cases h with
    | cons r t => exact .cons (Rep.ext e r) (RepL.ext e t)
end
section
variable {C : Cfg} {μ μ' : List Addr} {H H' : Hp}
theorem RepL.length : ∀ {vs : List V} {ds : List D}, RepL C μ H vs ds → vs.length = ds.length
  | _, _, .nil => rfl
  | _, _, .cons _ t => congrArg (· + 1) (RepL.length t)
theorem RepL.append : ∀ {vs ws : List V} {ds es : List D}, RepL C μ H vs ds → RepL C μ H ws es → RepL C μ H (vs ++ ws) (ds ++ es)
  | _, _, _, _, .nil, s => s
  | _, _, _, _, .cons r t, s => .cons r (RepL.append t s)
theorem RepL.one {v : V} {d : D} (h : Rep C μ H v d) : RepL C μ H [v] [d] := .cons h .nil
theorem RepL.get : ∀ {vs : List V} {ds : List D} {i : Nat} {d : D}, RepL C μ H vs ds → ds[i]? = some d → ∃ v, vs[i]? = some v ∧ Rep C μ H v d
  | _, _, _, _, .nil, e => by simp at e
  | _, _, 0, _, .cons r _, e => by simp at e; subst e; exact ⟨_, rfl, r⟩
  | _, _, i + 1, d, .cons _ t, e => by
    obtain ⟨v, h1, h2⟩ := RepL.get (i := i) (d := d) t (by simpa using e)
    exact ⟨v, by simpa using h1, h2⟩
theorem RepL.getV : ∀ {vs : List V} {ds : List D} {i : Nat} {v : V}, RepL C μ H vs ds → vs[i]? = some v → ∃ d, ds[i]? = some d ∧ Rep C μ H v d
  | _, _, _, _, .nil, e => by simp at e
  | _, _, 0, _, .cons r _, e => by simp at e; subst e; exact ⟨_, rfl, r⟩
  | _, _, i + 1, d, .cons _ t, e => by
    obtain ⟨v, h1, h2⟩ := RepL.getV (i := i) (v := d) t (by simpa using e)
    exact ⟨v, by simpa using h1, h2⟩
theorem RepL.take : ∀ {vs : List V} {ds : List D} (n : Nat), RepL C μ H vs ds → RepL C μ H (vs.take n) (ds.take n)
  | _, _, 0, _ => by simp; exact .nil
  | _, _, _ + 1, .nil => .nil
  | _, _, n + 1, .cons r t => .cons r (RepL.take n t)
theorem RepL.drop : ∀ {vs : List V} {ds : List D} (n : Nat), RepL C μ H vs ds → RepL C μ H (vs.drop n) (ds.drop n)
  | _, _, 0, r => r
  | _, _, _ + 1, .nil => .nil
  | _, _, n + 1, .cons r t => RepL.drop n t
theorem RepL.reverse {vs : List V} {ds : List D} (h : RepL C μ H vs ds) : RepL C μ H vs.reverse ds.reverse := by
  induction ds generalizing vs with
  | nil => cases h; exact .nil
  | cons d ds ih =>
    cases h with
    | cons r t =>
      rw [List.reverse_cons, List.reverse_cons]
      exact (ih t).append (.one r)
theorem RepL.set {v : V} {d : D} (r : Rep C μ H v d) : ∀ {vs : List V} {ds : List D} (i : Nat), RepL C μ H vs ds → RepL C μ H (vs.set i v) (ds.set i d)
  | _, _, _, .nil => .nil
  | _, _, 0, .cons _ t => .cons r t
  | _, _, i + 1, .cons q t => .cons q (RepL.set r i t)
theorem RepL.rep {vs : List V} {ds : List D} (h : RepL C μ H vs ds) : ∀ k : Nat, RepL C μ H (List.replicate k vs).flatten (List.replicate k ds).flatten
  | 0 => .nil
  | k + 1 => by
    rw [List.replicate_succ, List.replicate_succ, List.flatten_cons, List.flatten_cons]
    exact h.append (RepL.rep h k)
theorem RepL.ints : ∀ {vs : List V} {ds : List D} {ns : List Int}, RepL C μ H vs ds → ints? ds = some ns → vs = ns.map V.int
  | _, _, ns, .nil, e => by simp [ints?] at e; subst e; rfl
  | _, _, ns, .cons (d := .int i) r t, e => by
    simp only [ints?, Option.map_eq_some_iff] at e
    obtain ⟨ms, e1, rfl⟩ := e
    cases r
    rw [RepL.ints t e1]; rfl
  | _, _, _, .cons (d := .non) r t, e => by simp [ints?] at e
  | _, _, _, .cons (d := .bl _) r t, e => by simp [ints?] at e
  | _, _, _, .cons (d := .str _) r t, e => by simp [ints?] at e
  | _, _, _, .cons (d := .tup _) r t, e => by simp [ints?] at e
  | _, _, _, .cons (d := .lst _) r t, e => by simp [ints?] at e
  | _, _, _, .cons (d := .ref _) r t, e => by simp [ints?] at e
  | _, _, _, .cons (d := .glo _) r t, e => by simp [ints?] at e
  | _, _, _, .cons (d := .ty _) r t, e => by simp [ints?] at e
  | _, _, _, .cons (d := .scr _) r t, e => by simp [ints?] at e
theorem RepL.bls : ∀ {vs : List V} {ds : List D} {ns : List Bool}, RepL C μ H vs ds → bls? ds = some ns → vs = ns.map V.bl
  | _, _, ns, .nil, e => by simp [bls?] at e; subst e; rfl
  | _, _, ns, .cons (d := .bl i) r t, e => by
    simp only [bls?, Option.map_eq_some_iff] at e
    obtain ⟨ms, e1, rfl⟩ := e
    cases r
    rw [RepL.bls t e1]; rfl
  | _, _, _, .cons (d := .non) r t, e => by simp [bls?] at e
  | _, _, _, .cons (d := .int _) r t, e => by simp [bls?] at e
  | _, _, _, .cons (d := .str _) r t, e => by simp [bls?] at e
  | _, _, _, .cons (d := .tup _) r t, e => by simp [bls?] at e
  | _, _, _, .cons (d := .lst _) r t, e => by simp [bls?] at e
  | _, _, _, .cons (d := .ref _) r t, e => by simp [bls?] at e
  | _, _, _, .cons (d := .glo _) r t, e => by simp [bls?] at e
  | _, _, _, .cons (d := .ty _) r t, e => by simp [bls?] at e
  | _, _, _, .cons (d := .scr _) r t, e => by simp [bls?] at e
theorem RepL.strs : ∀ {vs : List V} {ds : List D} {ns : List Str}, RepL C μ H vs ds → strs? ds = some ns → vs = ns.map V.str
  | _, _, ns, .nil, e => by simp [strs?] at e; subst e; rfl
  | _, _, ns, .cons (d := .str i) r t, e => by
    simp only [strs?, Option.map_eq_some_iff] at e
    obtain ⟨ms, e1, rfl⟩ := e
    cases r
    rw [RepL.strs t e1]; rfl
  | _, _, _, .cons (d := .non) r t, e => by simp [strs?] at e
  | _, _, _, .cons (d := .int _) r t, e => by simp [strs?] at e
  | _, _, _, .cons (d := .bl _) r t, e => by simp [strs?] at e
  | _, _, _, .cons (d := .tup _) r t, e => by simp [strs?] at e
  | _, _, _, .cons (d := .lst _) r t, e => by simp [strs?] at e
  | _, _, _, .cons (d := .ref _) r t, e => by simp [strs?] at e
  | _, _, _, .cons (d := .glo _) r t, e => by simp [strs?] at e
  | _, _, _, .cons (d := .ty _) r t, e => by simp [strs?] at e
  | _, _, _, .cons (d := .scr _) r t, e => by simp [strs?] at e
theorem RepL.ofInts : ∀ (ns : List Int), RepL C μ H (ns.map V.int) (ns.map D.int)
  | [] => .nil
  | n :: ns => .cons (.int n) (RepL.ofInts ns)
end
/-- an object of the store at its address -/
def ObR (C : Cfg) (μ : List Addr) (H : Hp) (a : Addr) : Ob → Prop
  | .lst ds => ∃ xs, H a = some (.lst xs) ∧ RepL C μ H xs ds
  | .dct _ => False
structure StoR (C : Cfg) (μ : List Addr) (H : Hp) (S : Sto) : Prop where
  len : μ.length = S.length
  nd : μ.Nodup
  at_ : ∀ (n : Nat) (o : Ob), S[n]? = some o → ∃ a, μ[n]? = some a ∧ ObR C μ H a o
  avs : ∀ a ∈ C.av, a ∉ μ ∧ ∃ xs, H a = some (.lst xs)
structure EnvR (C : Cfg) (μ : List Addr) (H : Hp) (σ : L2.St) (δ : Env) : Prop where
  len : δ.length = σ.length
  at_ : ∀ (i : Nat) (d : D), δ[i]? = some (some d) → ∃ v, σ[i]? = some (some v) ∧ Rep C μ H v d
section
variable {C : Cfg} {μ μ' : List Addr} {H H' : Hp} {S : Sto} {σ : L2.St} {δ : Env}
theorem EnvR.ext (e : Ext C.T μ H μ' H') (h : EnvR C μ H σ δ) : EnvR C μ' H' σ δ := ⟨h.len, fun i d q => let ⟨v, a, b⟩ := h.at_ i d q; ⟨v, a, b.ext e⟩⟩
theorem EnvR.set (h : EnvR C μ H σ δ) {v : V} {d : D} (r : Rep C μ H v d) (i : Nat) : EnvR C μ H (σ.set i (some v)) (δ.set i (some d)) := by
  refine ⟨by simp [h.len], fun j e q => ?_⟩
  by_cases hj : i = j
  · subst hj
    by_cases hl : i < δ.length
    · rw [List.getElem?_set_self hl] at q
      cases q
      rw [List.getElem?_set_self (by rw [← h.len]; exact hl)]
      exact ⟨v, rfl, r⟩
    · rw [List.getElem?_eq_none (by simpa using hl)] at q
      cases q
  · rw [List.getElem?_set_ne hj] at q ⊢
    exact h.at_ j e q
theorem EnvR.setNone (h : EnvR C μ H σ δ) (i : Nat) : EnvR C μ H (σ.set i none) (δ.set i none) := by
  refine ⟨by simp [h.len], fun j e q => ?_⟩
  by_cases hj : i = j
  · subst hj
    by_cases hl : i < δ.length
    · rw [List.getElem?_set_self hl] at q
      cases q
    · rw [List.getElem?_eq_none (by simpa using hl)] at q
      cases q
  · rw [List.getElem?_set_ne hj] at q ⊢
    exact h.at_ j e q
theorem EnvR.wipe (h : EnvR C μ H σ δ) : ∀ vs : List Nat, EnvR C μ H (wipe σ vs) (wipeD δ vs)
  | [] => h
  | v :: vs => (EnvR.wipe h vs).setNone v
theorem EnvR.none {n : Nat} (h : n = σ.length) : EnvR C μ H σ (List.replicate n none) := ⟨by simp [h], fun i d q => by
  rw [List.getElem?_replicate] at q
  split at q <;> cases q⟩
theorem StoR.lt (h : StoR C μ H S) {a : Addr} (ha : a ∈ μ) : ∃ o, H a = some o ∧ (∃ xs, o = .lst xs) := by
  obtain ⟨n, hn⟩ := List.mem_iff_getElem?.mp ha
  have hl : n < S.length := by rw [← h.len]; exact (List.getElem?_eq_some_iff.mp hn).1
  obtain ⟨a', h1, h2⟩ := h.at_ n S[n] (List.getElem?_eq_getElem hl)
  rw [hn] at h1
  cases h1
  cases e : S[n] with
  | lst ds =>
    rw [e] at h2
    obtain ⟨xs, h3, _⟩ := h2
    exact ⟨_, h3, xs, rfl⟩
  | dct _ =>
    rw [e] at h2
    exact h2.elim
theorem StoR.noav (h : StoR C μ H S) {p : Addr} (hp : H p = none) : p ∉ C.av := fun z => by
  obtain ⟨_, xs, e⟩ := h.avs p z
  rw [hp] at e
  cases e
theorem StoR.notin (h : StoR C μ H S) {p : Addr} (hp : H p = none) : p ∉ μ := fun z => by
  obtain ⟨o, e, _⟩ := h.lt z
  rw [hp] at e
  cases e
theorem Tabs.new {T : List (Addr × Str)} (t : Tabs T H) {p : Addr} {o : HO} (hp : H p = none) : Tabs T (upd H p o) := LamX.Tabs.ext t fun b u q => by rw [upd_ne (ne_of_none q hp)]; exact q
theorem Tabs.upd {T : List (Addr × Str)} (t : Tabs T H) {p : Addr} {o : HO} {xs : List V} (hp : H p = some (.lst xs)) : Tabs T (upd H p o) := fun q hq => by
  obtain ⟨ps, h1, h2, h3⟩ := t q hq
  refine ⟨ps, by rw [upd_ne (ne_of h1 hp (by intro z; cases z))]; exact h1, h2, fun pos cv hc => ?_⟩
  obtain ⟨c, e1, e2⟩ := h3 pos cv hc
  exact ⟨c, e1, by rw [upd_ne (ne_of e2 hp (by intro z; unfold CodeO at z; cases z))]; exact e2⟩
/-- a new object that is not of the store -/
theorem Ext.new {T : List (Addr × Str)} {p : Addr} {o : HO} (hp : H p = none) (hn : p ∉ μ) : Ext T μ H μ (upd H p o) := ⟨⟨[], by simp⟩, fun a u h n _ => ⟨by rw [upd_ne (ne_of_none h hp)]; exact h, n⟩, fun t => Tabs.new t hp⟩
/-- a new object of the store -/
theorem Ext.push {T : List (Addr × Str)} {p : Addr} {o : HO} (hp : H p = none) : Ext T μ H (μ ++ [p]) (upd H p o) := ⟨⟨[p], rfl⟩, fun a u h n _ => ⟨by rw [upd_ne (ne_of_none h hp)]; exact h, fun z => by
  rcases List.mem_append.mp z with z | z
  · exact n z
  · have e : a = p := by simpa using z
    exact ne_of_none h hp e⟩, fun t => Tabs.new t hp⟩
/-- an object of the store is written -/
theorem Ext.write {T : List (Addr × Str)} {p : Addr} {o : HO} {xs : List V} (hp : H p = some (.lst xs)) (hm : p ∈ μ) : Ext T μ H μ (upd H p o) := ⟨⟨[], by simp⟩, fun a u h n _ => ⟨by rw [upd_ne (fun z => n (by rw [z]; exact hm))]; exact h, n⟩, fun t => Tabs.upd t hp⟩
theorem ObR.ext {a : Addr} {o : Ob} (e : Ext C.T μ H μ' H') (h : ObR C μ H a o) (k : ∀ u, H a = some u → H' a = some u) : ObR C μ' H' a o := by
  cases o with
  | lst ds =>
    obtain ⟨xs, h1, h2⟩ := h
    exact ⟨xs, k _ h1, h2.ext e⟩
  | dct _ => exact h
theorem AvR.ext {vs : List Addr} (e : Ext C.T μ H μ' H') (h : ∀ a ∈ vs, a ∉ μ ∧ ∃ xs, H a = some (.lst xs)) : ∀ a ∈ vs, a ∉ μ' ∧ ∃ xs, H' a = some (.lst xs) := fun a ha => by
  obtain ⟨n, xs, q⟩ := h a ha
  obtain ⟨q1, n1⟩ := e.old a _ q n (fun ps z => by cases z)
  exact ⟨n1, xs, q1⟩
/-- the store stands where its objects do -/
theorem StoR.ext (h : StoR C μ H S) (e : Ext C.T μ H μ H') (k : ∀ a ∈ μ, ∀ u, H a = some u → H' a = some u) : StoR C μ H' S := ⟨h.len, h.nd, fun n o q => by
  obtain ⟨a, h1, h2⟩ := h.at_ n o q
  exact ⟨a, h1, h2.ext e (k a (List.mem_of_getElem? h1))⟩, AvR.ext e h.avs⟩
theorem StoR.new (h : StoR C μ H S) {p : Addr} {o : HO} (hp : H p = none) : StoR C μ (upd H p o) S :=
  h.ext (Ext.new hp (h.notin hp)) fun a _ u q => by rw [upd_ne (ne_of_none q hp)]; exact q
theorem StoR.push (h : StoR C μ H S) {p : Addr} {xs : List V} {ds : List D} (hp : H p = none) (r : RepL C μ H xs ds) : StoR C (μ ++ [p]) (upd H p (.lst xs)) (S ++ [.lst ds]) := by
  have e : Ext C.T μ H (μ ++ [p]) (upd H p (.lst xs)) := Ext.push hp
  refine ⟨by simp [h.len], List.nodup_append.mpr ⟨h.nd, by simp, fun a ha b hb z => ?_⟩, fun n o q => ?_, AvR.ext e h.avs⟩
  · have eb : b = p := by simpa using hb
    rw [z, eb] at ha
    exact h.notin hp ha
  · by_cases hn : n < S.length
    · rw [List.getElem?_append_left hn] at q
      obtain ⟨a, h1, h2⟩ := h.at_ n o q
      refine ⟨a, e.get h1, h2.ext e fun u z => by rw [upd_ne (ne_of_none z hp)]; exact z⟩
    · rw [List.getElem?_append_right (by omega)] at q
      have hz : n - S.length = 0 := by
        rcases Nat.eq_zero_or_pos (n - S.length) with z | z
        · exact z
        · rw [List.getElem?_eq_none (by simp; omega)] at q; cases q
      rw [hz] at q
      cases q
      refine ⟨p, ?_, xs, upd_same, r.ext e⟩
      have hl := h.len
      rw [List.getElem?_append_right (by omega), show n - μ.length = 0 by omega]
      rfl
theorem StoR.set (h : StoR C μ H S) {n : Nat} {p : Addr} {xs ys : List V} {ds es : List D} (hn : S[n]? = some (.lst ds)) (hp : μ[n]? = some p) (hx : H p = some (.lst xs)) (r : RepL C μ H ys es) :
    StoR C μ (upd H p (.lst ys)) (S.set n (.lst es)) := by
  have e : Ext C.T μ H μ (upd H p (.lst ys)) := Ext.write hx (List.mem_of_getElem? hp)
  refine ⟨by simp [h.len], h.nd, fun m o q => ?_, AvR.ext e h.avs⟩
  by_cases hm : n = m
  · subst hm
    rw [List.getElem?_set_self (List.getElem?_eq_some_iff.mp hn).1] at q
    cases q
    exact ⟨p, hp, ys, upd_same, r.ext e⟩
  · rw [List.getElem?_set_ne hm] at q
    obtain ⟨a, h1, h2⟩ := h.at_ m o q
    refine ⟨a, h1, h2.ext e fun u z => ?_⟩
    have hne : a ≠ p := fun z2 => by
      subst z2
      have i1 := (List.getElem?_eq_some_iff.mp hp)
      have i2 := (List.getElem?_eq_some_iff.mp h1)
      obtain ⟨l1, e1⟩ := i1
      obtain ⟨l2, e2⟩ := i2
      exact hm ((List.getElem_inj h.nd).mp (e1.trans e2.symm))
    rw [upd_ne hne]
    exact z
mutual
theorem Rep.to {C C' : Cfg} (hK : C.K = C'.K) (hg : C.ga = C'.ga) {μ : List Addr} {H : Hp} (ha : ∀ a xs, H a = some (.lst xs) → a ∉ C.av → a ∉ C'.av) : ∀ {d : D} {v : V}, Rep C μ H v d → Rep C' μ H v d
  | .non, _, h => by cases h; exact .non
  | .bl _, _, h => by cases h; exact .bl _
  | .int _, _, h => by cases h; exact .int _
  | .str _, _, h => by cases h; exact .str _
  | .ty _, _, h => by cases h; exact .ty _
  | .glo _, _, h => by cases h; rw [hg]; exact .glo _
  | .ref _, _, h => by
    cases h with
    | ref h => exact .ref h
  | .tup ds, _, h => by
    cases h with
    | tup h r => exact .tup (by rw [← hK]; exact h) (RepL.to hK hg ha r)
  | .lst ds, _, h => by
    cases h with
    | lst h n v r => exact .lst h n (ha _ _ h v) (RepL.to hK hg ha r)
  | .scr _, _, h => by
    cases h with
    | scr h => exact .scr (by rw [← hK]; exact h)
theorem RepL.to {C C' : Cfg} (hK : C.K = C'.K) (hg : C.ga = C'.ga) {μ : List Addr} {H : Hp} (ha : ∀ a xs, H a = some (.lst xs) → a ∉ C.av → a ∉ C'.av) : ∀ {ds : List D} {vs : List V}, RepL C μ H vs ds → RepL C' μ H vs ds
  | [], _, h => by cases h; exact .nil
  | d :: ds, _, h => by
    cases h with
    | cons r t => exact .cons (Rep.to hK hg ha r) (RepL.to hK hg ha t)
end
mutual
theorem Rep.put {C : Cfg} {μ : List Addr} {H : Hp} {p : Addr} {o : HO} {zs : List V} (hp : H p = some (.lst zs)) (hv : p ∈ C.av) : ∀ {d : D} {v : V}, Rep C μ H v d → Rep C μ (upd H p o) v d
  | .non, _, h => by cases h; exact .non
  | .bl _, _, h => by cases h; exact .bl _
  | .int _, _, h => by cases h; exact .int _
  | .str _, _, h => by cases h; exact .str _
  | .ty _, _, h => by cases h; exact .ty _
  | .glo _, _, h => by cases h; exact .glo _
  | .ref _, _, h => by
    cases h with
    | ref h => exact .ref h
  | .tup ds, _, h => by
    cases h with
    | tup h r =>
      refine .tup ?_ (RepL.put hp hv r)
      rcases h with ⟨h, n⟩ | h
      · exact .inl ⟨by rw [upd_ne (ne_of h hp (by intro z; cases z))]; exact h, n⟩
      · exact .inr h
  | .lst ds, _, h => by
    cases h with
    | lst h n v r => exact .lst (by rw [upd_ne (fun z => v (by rw [z]; exact hv))]; exact h) n v (RepL.put hp hv r)
  | .scr _, _, h => by
    cases h with
    | scr h =>
      refine .scr ?_
      rcases h with ⟨o, h, n⟩ | h
      · exact .inl ⟨o, by rw [upd_ne (ne_of h hp (by intro z; cases z))]; exact h, n⟩
      · exact .inr h
theorem RepL.put {C : Cfg} {μ : List Addr} {H : Hp} {p : Addr} {o : HO} {zs : List V} (hp : H p = some (.lst zs)) (hv : p ∈ C.av) : ∀ {ds : List D} {vs : List V}, RepL C μ H vs ds → RepL C μ (upd H p o) vs ds
  | [], _, h => by cases h; exact .nil
  | d :: ds, _, h => by
    cases h with
    | cons r t => exact .cons (Rep.put hp hv r) (RepL.put hp hv t)
end
theorem ObR.to {C C' : Cfg} (hK : C.K = C'.K) (hg : C.ga = C'.ga) {μ : List Addr} {H : Hp} (ha : ∀ a xs, H a = some (.lst xs) → a ∉ C.av → a ∉ C'.av) {a : Addr} {o : Ob} (h : ObR C μ H a o) : ObR C' μ H a o := by
  cases o with
  | lst ds =>
    obtain ⟨xs, h1, h2⟩ := h
    exact ⟨xs, h1, h2.to hK hg ha⟩
  | dct _ => exact h
theorem StoR.to {C C' : Cfg} (hK : C.K = C'.K) (hg : C.ga = C'.ga) {μ : List Addr} {H : Hp} {S : Sto} (ha : ∀ a xs, H a = some (.lst xs) → a ∉ C.av → a ∉ C'.av) (hv : ∀ a ∈ C'.av, a ∉ μ ∧ ∃ xs, H a = some (.lst xs)) (h : StoR C μ H S) : StoR C' μ H S :=
  ⟨h.len, h.nd, fun n o q => let ⟨a, h1, h2⟩ := h.at_ n o q; ⟨a, h1, h2.to hK hg ha⟩, hv⟩
theorem EnvR.to {C C' : Cfg} (hK : C.K = C'.K) (hg : C.ga = C'.ga) {μ : List Addr} {H : Hp} {σ : L2.St} {δ : Env} (ha : ∀ a xs, H a = some (.lst xs) → a ∉ C.av → a ∉ C'.av) (h : EnvR C μ H σ δ) : EnvR C' μ H σ δ :=
  ⟨h.len, fun i d q => let ⟨v, h1, h2⟩ := h.at_ i d q; ⟨v, h1, h2.to hK hg ha⟩⟩
theorem StoR.put {p : Addr} {xs ys : List V} (h : StoR C μ H S) (hp : H p = some (.lst xs)) (hv : p ∈ C.av) : StoR C μ (upd H p (.lst ys)) S := by
  have hn := (h.avs p hv).1
  refine ⟨h.len, h.nd, fun n o q => ?_, fun a ha => ?_⟩
  · obtain ⟨a, h1, h2⟩ := h.at_ n o q
    refine ⟨a, h1, ?_⟩
    cases o with
    | lst ds =>
      obtain ⟨zs, h3, h4⟩ := h2
      exact ⟨zs, by rw [upd_ne (fun z => hn (by rw [← z]; exact List.mem_of_getElem? h1))]; exact h3, h4.put hp hv⟩
    | dct _ => exact h2
  · obtain ⟨n, zs, q⟩ := h.avs a ha
    refine ⟨n, ?_⟩
    by_cases e : a = p
    · rw [e]; exact ⟨ys, upd_same⟩
    · exact ⟨zs, by rw [upd_ne e]; exact q⟩
theorem EnvR.put {p : Addr} {xs : List V} {o : HO} (h : EnvR C μ H σ δ) (hp : H p = some (.lst xs)) (hv : p ∈ C.av) : EnvR C μ (upd H p o) σ δ := ⟨h.len, fun i d q => let ⟨v, h1, h2⟩ := h.at_ i d q; ⟨v, h1, h2.put hp hv⟩⟩
/-- what listOf tells -/
theorem list_at (h : StoR C μ H S) {v : V} {d : D} {ds : List D} (r : Rep C μ H v d) (e : listOf S d = some ds) : ∃ a xs, v = .ref a ∧ H a = some (.lst xs) ∧ RepL C μ H xs ds := by
  cases r with
  | lst ha hn hv rl =>
    simp only [listOf] at e
    cases e
    exact ⟨_, _, rfl, ha, rl⟩
  | ref hm =>
    rename_i n a
    simp only [listOf] at e
    cases q : S[n]? with
    | none => rw [q] at e; cases e
    | some o =>
      rw [q] at e
      cases o with
      | lst xs =>
        cases e
        obtain ⟨a', h1, ys, h2, h3⟩ := h.at_ n _ q
        rw [hm] at h1
        cases h1
        exact ⟨a, ys, rfl, h2, h3⟩
      | dct _ => cases e
  | _ => simp [listOf] at e
theorem tup_at {v : V} {ds : List D} (r : Rep C μ H v (.tup ds)) : ∃ a xs, v = .ref a ∧ TupAt C.K μ H a xs ∧ RepL C μ H xs ds := by
  cases r with
  | tup h l => exact ⟨_, _, rfl, h, l⟩
/-- a tuple or a list, read -/
theorem seq_at (h : StoR C μ H S) {v : V} {d : D} {ds : List D} (r : Rep C μ H v d) (e : tupOrList S d = some ds) : ∃ a xs, v = .ref a ∧ (SqL C.K H a xs ∨ SqT C.K H a xs) ∧ RepL C μ H xs ds := by
  by_cases ht : ∃ xs, d = .tup xs
  · obtain ⟨xs, rfl⟩ := ht
    have e' : xs = ds := by simpa [tupOrList] using e
    subst e'
    obtain ⟨a, ys, rfl, h1, h2⟩ := tup_at r
    exact ⟨a, ys, rfl, .inr h1.seq, h2⟩
  · have e2 : listOf S d = some ds := by
      cases d <;> first | exact e | exact absurd ⟨_, rfl⟩ ht
    obtain ⟨a, ys, rfl, h1, h2⟩ := list_at h r e2
    exact ⟨a, ys, rfl, .inl (SqL.of h1), h2⟩
theorem seqOf_at (h : StoR C μ H S) {v : V} {d : D} {ds : List D} (r : Rep C μ H v d) (e : seqOf S d = some ds) : ∃ a xs, v = .ref a ∧ (SqL C.K H a xs ∨ SqT C.K H a xs) ∧ RepL C μ H xs ds := by
  by_cases ht : ∃ xs, d = .scr xs
  · obtain ⟨ns, rfl⟩ := ht
    have e' : ns.map D.int = ds := by simpa [seqOf] using e
    subst e'
    cases r with
    | scr hs => exact ⟨_, _, rfl, .inl hs.seq, RepL.ofInts ns⟩
  · have e2 : tupOrList S d = some ds := by
      cases d <;> first | exact e | exact absurd ⟨_, rfl⟩ ht
    exact seq_at h r e2
mutual
theorem Rep.dp : ∀ {d : D} {v : V} {p : PyData}, Rep C μ H v d → D.pure? d = some p → Dp C.K H v p
  | .non, _, _, h, e => by cases h; simp [D.pure?] at e; subst e; exact .non
  | .bl _, _, _, h, e => by cases h; simp [D.pure?] at e; subst e; exact .bl _
  | .int _, _, _, h, e => by cases h; simp [D.pure?] at e; subst e; exact .int _
  | .str _, _, _, h, e => by cases h; simp [D.pure?] at e; subst e; exact .str _
  | .tup ds, _, _, h, e => by
    cases h with
    | tup h r =>
      simp only [D.pure?, Option.map_eq_some_iff] at e
      obtain ⟨ps, e1, rfl⟩ := e
      exact .tup h.seq (RepL.dp r e1)
  | .lst ds, _, _, h, e => by
    cases h with
    | lst h n _ r =>
      simp only [D.pure?, Option.map_eq_some_iff] at e
      obtain ⟨ps, e1, rfl⟩ := e
      exact .lst (SqL.of h) (RepL.dp r e1)
  | .ty _, _, _, _, e => by simp [D.pure?] at e
  | .glo _, _, _, _, e => by simp [D.pure?] at e
  | .ref _, _, _, _, e => by simp [D.pure?] at e
  | .scr _, _, _, _, e => by simp [D.pure?] at e
theorem RepL.dp : ∀ {ds : List D} {vs : List V} {ps : List PyData}, RepL C μ H vs ds → D.pures? ds = some ps → DpAll C.K H vs ps
  | [], _, _, h, e => by cases h; simp [D.pures?] at e; subst e; exact .nil
  | d :: ds, _, _, h, e => by
    cases h with
    | cons r t =>
      simp only [D.pures?] at e
      cases e1 : D.pure? d with
      | none => rw [e1] at e; cases e
      | some p =>
        cases e2 : D.pures? ds with
        | none => rw [e1, e2] at e; cases e
        | some ps =>
          rw [e1, e2] at e
          cases e
          exact .cons (Rep.dp r e1) (RepL.dp t e2)
end
theorem data_dp (h : StoR C μ H S) {v : V} {d : D} {p : PyData} (r : Rep C μ H v d) (e : dataOf S d = some p) : Dp C.K H v p := by
  by_cases ht : ∃ n, d = .ref n
  · obtain ⟨n, rfl⟩ := ht
    simp only [dataOf] at e
    cases q : S[n]? with
    | none => rw [q] at e; cases e
    | some o =>
      rw [q] at e
      cases o with
      | lst xs =>
        simp only [Option.map_eq_some_iff] at e
        obtain ⟨ps, e1, rfl⟩ := e
        obtain ⟨a, ys, rfl, h1, h2⟩ := list_at (ds := xs) h r (by simp [listOf, q])
        exact .lst (SqL.of h1) (RepL.dp h2 e1)
      | dct _ => cases e
  · have e2 : D.pure? d = some p := by
      cases d <;> first | exact e | exact absurd ⟨_, rfl⟩ ht
    exact r.dp e2
end
end IT
end
section
set_option Elab.async false
set_option linter.all false
set_option maxRecDepth 100000
set_option autoImplicit false
set_option maxHeartbeats 1000000
/-! enumerate of a tuple -/
namespace IT
open PySem PySem.Spec PyProof.Rows L2
open PySem.AutoSeq1 (wpAny_loadPart')
theorem drawsTuple {prog : Program} {w : World} {A : Around} (hh : A.handled = none) (it l : Addr) (hne : l ≠ it) (items : Array Value) :
    Draws prog w A it [it, l] items.size (fun i v => items[i]? = some v) (fun i h => h.IsTupleIter it l i ∧ h.IsTuple l items) where
  live := fun _ _ st => let ⟨o, ho, _⟩ := st.1; ⟨o, ho⟩
  frame := fun _ _ _ st hk => ⟨st.1.at fun o e => hk it (by simp) o e, let ⟨o, ho, r⟩ := st.2; ⟨o, hk l (by simp) o ho, r⟩⟩
  item := fun i s Q E hi st hQ => by
    refine RZ.nextOf_tuple_item st.1 st.2 (x := items[i]) (by simp [hi]) fun h' hit' hs' => ?_
    exact hQ _ h' s.toks (by simp [hi]) ⟨hit', st.2.extBut hs'.extBut hne⟩ hs'
  done := fun s Q E st hE => RZ.nextOf_tuple_end hh st.1 st.2 (by simp) hE
theorem meets_enumerate_newT (l : Addr) (items : Array Value) :
    Meets (Builtin.«enumerate.__new__» ⟨[.type "enumerate", .ref l], []⟩) (fun _ R s => s.heap.IsTuple l items ∧
      R (.ok (.ret (.ref (s.heap.push { cls := .type "tuple_iterator", data := .fields #[.ref l, .int 0 0] }).objs.size)))
        { s with heap := (s.heap.push { cls := .type "tuple_iterator", data := .fields #[.ref l, .int 0 0] }).push { cls := .type "enumerate", data := .fields #[.none, .bool false, .ref s.heap.objs.size, rawInt 0, .none, .none] } }) :=
  .of_wp fun prog w A R s h => by
    obtain ⟨hp, g, d, tk, os⟩ := s; obtain ⟨hL0, h⟩ := h
    have hsub := sub_enumerate
    have hL : Heap.IsTuple (Shared.heap ⟨hp, g, d, tk, os⟩) l items := hL0
    wp_walk
    refine wpAny_stack_any fun st => wpAny_pure ?_
    split
    · rename_i c _ _ _ _ _
      cases (c == Value.type "enumerate")
      · wp_walk using wpAny_pyIter_tuple hL
        exact ⟨_, rfl, h⟩
      · wp_walk using wpAny_pyIter_tuple hL
        exact ⟨_, rfl, h⟩
    · wp_walk using wpAny_pyIter_tuple hL
      exact ⟨_, rfl, h⟩
section
variable {prog : Program} {w : World} {A : Around} {E : Value → Shared → Prop} {s : Shared}
theorem call_enumT {l : Addr} {items : Array Value} {Q : Value → Shared → Prop} (hL : s.heap.IsTuple l items)
    (h : ∀ h', IsEnum h' (s.heap.objs.size + 1) s.heap.objs.size 0 .none → h'.IsTupleIter s.heap.objs.size l 0 → (∀ b o, s.heap.get? b = some o → h'.get? b = some o) → Q (.ref (s.heap.objs.size + 1)) { s with heap := h' }) :
    wpAny (model prog w) A (call (.type "enumerate") [.ref l]) Q E s := by
  refine callType_new F.called_enumerate (by decide) (F.typeCall_enumerate_1 _) (F.newCall_enumerate_1 _) (fun obj => F.args_object_init_2 obj _) F.entry_enumerate_new
    (meets_enumerate_newT l items) ⟨hL, ?_⟩
  have hz : (s.heap.push { cls := .type "tuple_iterator", data := .fields #[.ref l, .int 0 0] }).objs.size = s.heap.objs.size + 1 := Heap.size_push ..
  show _ ∧ _
  rw [hz]
  have he : IsEnum ((s.heap.push { cls := .type "tuple_iterator", data := .fields #[.ref l, .int 0 0] }).push
      { cls := .type "enumerate", data := .fields #[.none, .bool false, .ref s.heap.objs.size, rawInt 0, .none, .none] }) (s.heap.objs.size + 1) s.heap.objs.size 0 .none := by
    have := Heap.get?_push_size (s.heap.push { cls := .type "tuple_iterator", data := .fields #[.ref l, .int 0 0] })
      (o := { cls := .type "enumerate", data := .fields #[.none, .bool false, .ref s.heap.objs.size, rawInt 0, .none, .none] }) rfl
    rw [hz] at this; exact this
  exact ⟨⟨_, he, rfl⟩, h _ he ⟨_, Heap.get?_push_of_some _ (Heap.get?_push_size _ rfl), rfl, rfl⟩ fun b o x => Heap.get?_push_of_some _ (Heap.get?_push_of_some _ x)⟩
end
section
variable {prog : Program} {w : World} {A : Around} {E : Value → Shared → Prop} {s : Shared}
theorem pyNext_enumT_end {e it l : Addr} {i : Nat} {items : Array Value} {old : Value} {Q : Option Value → Shared → Prop} (hh : A.handled = none)
    (he : IsEnum s.heap e it i old) (hit : s.heap.IsTupleIter it l i) (hl : s.heap.IsTuple l items) (hx : items[i]? = none)
    (hQ : ∀ h', Heap.ExtBut it s.heap h' → Q none { s with heap := h' }) : wpAny (model prog w) A (pyNext (.ref e)) Q E s := by
  have hT : s.TypeIs (.ref e) "enumerate" := ⟨_, he, rfl⟩
  unfold pyNext
  refine wpAny_bind (wpAny_attempt (wpAny_callSpecial?_slot (name := Str.ofString "__next__") hT F.slot_enumerate_next
    (wpAny_call_entry F.slot_enumerate_next hT F.entry_enumerate_next ?_ (F.args_enumerate_next_1 _))))
  show wpAny _ _ (field (.ref e) 2 >>= _) _ _ _
  refine wpAny_bind (wpAny_field he rfl (x := .ref it) rfl ?_)
  refine wpAny_bind (RZ.nextOf_tuple_end hh hit hl hx fun h' x he' hx' => ?_)
  obtain ⟨o, ho, hc⟩ := hx'
  refine wpAny_bind (wpAny_isInstance (T := "StopIteration") (b := true) ⟨o, ho, hc⟩ isSubtype_stop ?_)
  exact wpAny_pure (hQ _ he')
end
/-- the tuple at a, each item in a new pair -/
def IteT (K : PySem.W.Frag) (a : Addr) : It :=
  ⟨fun i H => ∃ (xs : List V) (x : V), SqT K H a xs ∧ xs[i]? = some x, fun i H v H' => ∃ T x, v = .ref T ∧ H T = none ∧ H' = upd H T (.tup [.int (i : Nat), x]) ∧ ∀ xs, SqT K H a xs → xs[i]? = some x, fun i H => ∃ xs : List V, SqT K H a xs ∧ xs.length ≤ i⟩
theorem turn_enumT {P : Program} {w : World} {K : PySem.W.Frag} {elts : List Expr} {kk : Nat} {tpos : Pos} (a e it : Addr) :
    Turn P w K (.Tuple elts kk tpos) (IteT K a) [e, it] e (fun i h => (∃ old, IsEnum h e it ((i : Nat) : Int) old) ∧ h.IsTupleIter it a i ∧ e ≠ it ∧ a ≠ it ∧ a ≠ e) where
  mem := by simp
  obj := fun i h st b hb => by
    obtain ⟨⟨old, he⟩, ⟨o, ho, hc, hd⟩, _⟩ := st
    have e' : b = e ∨ b = it := by simpa using hb
    rcases e' with z | z
    · rw [z]; exact ⟨_, he, fun v q => nomatch q⟩
    · rw [z]; exact ⟨o, ho, fun v q => by rw [hd] at q; cases q⟩
  keep := fun i h h' st k => let ⟨⟨old, he⟩, hi, hne⟩ := st; ⟨⟨old, k e (by simp) _ he⟩, hi.at fun o q => k it (by simp) o q, hne⟩
  item := by
    intro X hP hw hK hc i pins s σ H E I hf st hg
    subst hP hw hK
    obtain ⟨⟨old, he⟩, hit, hne, hai, hae⟩ := st
    obtain ⟨xs, x, hq, hx⟩ := hg
    obtain ⟨its, rv, p, hz⟩ := I.tuple hq
    obtain ⟨u, hu, ru⟩ := rv.get hx
    have hel : e < s.heap.objs.size := Heap.lt_size he
    have hil : it < s.heap.objs.size := by obtain ⟨_, q, _⟩ := hit; exact Heap.lt_size q
    have hlt : i < its.toArray.size := by
      have := (List.getElem?_eq_some_iff.mp hu).1
      simpa using this
    refine wpAny_pyNext_enum_itemD (drawsTuple (A := X.A.in1) (show X.A.in1.handled = none from I.ok.hd hc) it a hai its.toArray) he ⟨hit, p⟩ hlt hne (by simp [hne, Ne.symm hae]) fun x' h' tk hP ho hst' hT hsz hk => ?_
    have ex : x' = u := by
      have : its[i]? = some x' := by simpa using hP
      rw [hu] at this
      exact (Option.some.inj this).symm
    subst ex
    obtain ⟨hit', hL'⟩ := hst'
    refine ⟨_, rfl, wpAny_letOwnedTupleGo_enum (s := { s with heap := h', toks := tk + 1 }) ho fun h'' he' sb => ?_⟩
    have hT2 : h''.get? s.heap.objs.size = some { cls := .type "tuple", data := .seq #[.int i tk, x'] } := (sb.2 _ (Nat.ne_of_gt hel)).trans hT
    have new : ObjOk X.prog X.w (upd H s.heap.objs.size (.tup [.int (i : Nat), x])) h'' s.heap.objs.size (.tup [.int (i : Nat), x]) :=
      ⟨by show 2 ≤ sizeLine; decide, [.int i tk, x'], .cons ⟨_, rfl⟩ (.cons ru .nil), ⟨_, hT2, rfl, _, rfl⟩⟩
    have I1 : Inv X pins σ (upd H s.heap.objs.size (.tup [.int (i : Nat), x])) { s with heap := h'', toks := tk + 1 } :=
      I.turnedNew (ch := [e, it]) (fun b ob hb q => (sb.2 b (fun z => hb (by simp [z]))).trans (hk b ob (fun z => hb (by simp [z])) (fun z => hb (by simp [z])) q)) hf (Nat.le_refl _) new
    refine ⟨.ref s.heap.objs.size, _, I1, rfl, ⟨_, x, rfl, I.hok.fresh (Nat.le_refl _), rfl, fun ys hy => by rw [I.tuple_inj hy hq]; exact hx⟩, ⟨⟨x', ?_⟩, hit'.at fun o q => (sb.2 it (Ne.symm hne)).trans q, hne, hai, hae⟩, fun b hb => ?_⟩
    · have e1 : ((i + 1 : Nat) : Int) = (i : Int) + 1 := by omega
      rw [e1]; exact he'
    · have hb' : b < s.heap.objs.size := by
        have e' : b = e ∨ b = it := by simpa using hb
        rcases e' with z | z
        · rw [z]; exact hel
        · rw [z]; exact hil
      rw [upd_ne (Nat.ne_of_lt hb')]
      exact (hf b hb).1
  done := by
    intro X hP hw hK hc i pins s σ H E I hf st hg
    subst hP hw hK
    obtain ⟨⟨old, he⟩, hit, hne, hai, hae⟩ := st
    obtain ⟨xs, hq, hx⟩ := hg
    obtain ⟨its, rv, p, hz⟩ := I.tuple hq
    obtain ⟨f0, f1, f2, f3, f4, f5⟩ := hf it (by simp)
    have hl := rv.length
    exact pyNext_enumT_end (I.ok.hd hc) he hit p (by simp; omega) fun h' eb => ⟨rfl, I.turned (t' := s.toks) (fun b o hb q => eb b o hb q) f0 f1 f3 f4 f5⟩
  self := fun A i s Q E st h => let ⟨⟨_, he⟩, _⟩ := st; wpAny_pyIter_enum he h
def iEnumA (K : PySem.W.Frag) (ta : TA) : TI := fun σ H R => ta σ H fun vs H1 => ∃ a xs, vs = [.ref a] ∧ ((SqL K H1 a xs ∧ R (Ite K a) H1) ∨ (SqT K H1 a xs ∧ R (IteT K a) H1))
theorem pi_enumA {X : Cx} {e : Expr} {ta : TA} {p pos tpos : Pos} {elts : List Expr} {kk : Nat} (hg : Gl X "enumerate") (hm : X.mg "enumerate" = none) (ha : PA X [e] ta) (hs : starEach [e] X.env = [(false, eval e X.env)] := by rfl) :
    PI X (.Tuple elts kk tpos) (.Call (.Name "enumerate" p) [e] [] pos) (iEnumA X.K ta) := by
  refine ⟨fun pins s σ H R I h => ?_⟩
  refine Call_ (ld_blt I hg hm boot_enumerate (PyProof.Rows.callWith_type1 (thn (ha.run pos pins s σ H _ I h) fun us s1 ⟨vs, H1, I1, r1, q1⟩ => ?_) hs rfl))
  obtain ⟨a, xs, ex, hq⟩ := q1
  subst ex
  have fresh : ∀ b ∈ [s1.heap.objs.size + 1, s1.heap.objs.size], FpOk X pins H1 b := fun b hb => by
    have e' : b = s1.heap.objs.size + 1 ∨ b = s1.heap.objs.size := by simpa using hb
    have hle : s1.heap.objs.size ≤ b := by
      rcases e' with z | z
      · rw [z]; exact Nat.le_add_right _ _
      · rw [z]; exact Nat.le_refl _
    exact I1.fpOk hle (I1.hok.fresh hle)
  cases r1 with
  | cons r rr =>
    cases rr
    cases r
    rcases hq with ⟨hq, q⟩ | ⟨hq, q⟩
    · obtain ⟨its, rv, p', hz⟩ := I1.list hq
      refine call_enumerate_list p'.isList fun h' he hit hsz hk => wpAny_pyIter_enum he ?_
      have I2 : Inv X pins σ H1 { s1 with heap := h' } := I1.kept (t' := s1.toks) hk
      exact ⟨s1.heap.objs.size + 1, [s1.heap.objs.size + 1, s1.heap.objs.size], _, _, H1, rfl, I2, turn_enum a (s1.heap.objs.size + 1) s1.heap.objs.size, ⟨⟨.none, he⟩, hit, Nat.succ_ne_self _⟩, fresh, q⟩
    · obtain ⟨its, rv, p', hz⟩ := I1.tuple hq
      obtain ⟨o1, ho1, _⟩ := id p'
      have hlt : a < s1.heap.objs.size := Heap.lt_size ho1
      refine call_enumT (show s1.heap.IsTuple a its.toArray from p') fun h' he hit hk => wpAny_pyIter_enum he ?_
      have I2 : Inv X pins σ H1 { s1 with heap := h' } := I1.kept (t' := s1.toks) hk
      exact ⟨s1.heap.objs.size + 1, [s1.heap.objs.size + 1, s1.heap.objs.size], _, _, H1, rfl, I2, turn_enumT a (s1.heap.objs.size + 1) s1.heap.objs.size, ⟨⟨.none, he⟩, hit, Nat.succ_ne_self _, Nat.ne_of_lt hlt, Nat.ne_of_lt (Nat.lt_succ_of_lt hlt)⟩, fresh, q⟩
end IT
end
section
set_option Elab.async false
set_option linter.all false
set_option maxRecDepth 100000
set_option autoImplicit false
namespace IT
open PySem PySem.Spec PyProof.Rows L2
open LamX (Tabs TabS CodeO)

/-- an exception as it lies: its class, its own dict -/
def ExR (C : Cfg) (μ : List Addr) (H : Hp) (cls : Value) (dd : Option Addr) (c : Nat) (x : D) : Prop :=
  cls = .ref (C.ga c) ∧ match C.xf c with
    | none => x = .non ∧ dd = none
    | some f => ∃ p v, dd = some p ∧ p ∉ μ ∧ H p = some (.xd [(f, v)]) ∧ Rep C μ H v x
structure Stt (C : Cfg) (μ : List Addr) (H : Hp) (S : Sto) (σ : L2.St) (δ : Env) : Prop where
  env : EnvR C μ H σ δ
  sto : StoR C μ H S
  tab : Tabs C.T H
  inv : ∀ i v, C.J = some (i, v) → σ[i]? = some (some v)
theorem ExR.ext {C : Cfg} {μ μ' : List Addr} {H H' : Hp} {cls : Value} {dd : Option Addr} {c : Nat} {x : D} (e : Ext C.T μ H μ' H') (h : ExR C μ H cls dd c x) : ExR C μ' H' cls dd c x := by
  obtain ⟨h1, h2⟩ := h
  refine ⟨h1, ?_⟩
  cases q : C.xf c with
  | none => rw [q] at h2; exact h2
  | some f =>
    rw [q] at h2
    obtain ⟨p, v, e1, e2, e3, e4⟩ := h2
    obtain ⟨h3, n3⟩ := e.old _ _ e3 e2 (fun ps z => by cases z)
    exact ⟨p, v, e1, n3, h3, e4.ext e⟩
section
variable {α β γ δ' : Type}
/-- what follows an evaluation's end r -/
def Pst (C : Cfg) (E : XK) (μ : List Addr) (H : Hp) (r : R α) (rel : List Addr → Hp → β → α → Prop) (Q : β → Hp → Prop) : Prop := match r with
  | .ok a S' => ∀ b H' μ', Ext C.T μ H μ' H' → rel μ' H' b a → StoR C μ' H' S' → Q b H'
  | .ex c x S' => ∀ cls dd H' μ', Ext C.T μ H μ' H' → ExR C μ' H' cls dd c x → StoR C μ' H' S' → E cls dd H'
  | .bad => False
def tI (C : Cfg) (E : XK) (f : Env → Sto → R α) (rel : List Addr → Hp → β → α → Prop) : L2.St → Hp → (β → Hp → Prop) → Prop := fun σ H Q =>
  ∃ μ δ S, Stt C μ H S σ δ ∧ Pst C E μ H (f δ S) rel Q
variable {C : Cfg} {E : XK} {μ μ1 : List Addr} {H H1 : Hp} {S : Sto}
theorem Pst.mono {r : R α} {rel : List Addr → Hp → β → α → Prop} {Q : β → Hp → Prop} (p : Pst C E μ H r rel Q) (e : Ext C.T μ H μ1 H1) : Pst C E μ1 H1 r rel Q := by
  cases r with
  | ok a S' => exact fun b H' μ' e' => p b H' μ' (e.trans e')
  | ex c x S' => exact fun cls dd H' μ' e' => p cls dd H' μ' (e.trans e')
  | bad => exact p
theorem Pst.imp {r : R α} {rel : List Addr → Hp → β → α → Prop} {Q Q' : β → Hp → Prop} (p : Pst C E μ H r rel Q) (h : ∀ b H', Q b H' → Q' b H') : Pst C E μ H r rel Q' := by
  cases r with
  | ok a S' => exact fun b H' μ' e r s => h _ _ (p b H' μ' e r s)
  | ex c x S' => exact p
  | bad => exact p
/-- one evaluation, then another -/
theorem Pst.bind {r : R α} {g : α → Sto → R γ} {rel : List Addr → Hp → β → α → Prop} {rel2 : List Addr → Hp → δ' → γ → Prop} {Q : δ' → Hp → Prop} (p : Pst C E μ H (r.bind g) rel2 Q) :
    Pst C E μ H r rel fun b H1 => ∃ μ1 S1 a, Ext C.T μ H μ1 H1 ∧ rel μ1 H1 b a ∧ StoR C μ1 H1 S1 ∧ Pst C E μ1 H1 (g a S1) rel2 Q := by
  cases r with
  | ok a S' => exact fun b H' μ' e r s => ⟨μ', S', a, e, r, s, Pst.mono p e⟩
  | ex c x S' => exact p
  | bad => exact p
/-- the end is here -/
theorem Pst.ok {a : α} {rel : List Addr → Hp → β → α → Prop} {Q : β → Hp → Prop} (p : Pst C E μ H (.ok a S) rel Q) {b : β} {H' : Hp} {μ' : List Addr} (e : Ext C.T μ H μ' H') (r : rel μ' H' b a) (s : StoR C μ' H' S) : Q b H' := p b H' μ' e r s
theorem Pst.here {a : α} {rel : List Addr → Hp → β → α → Prop} {Q : β → Hp → Prop} (p : Pst C E μ H (.ok a S) rel Q) {b : β} (r : rel μ H b a) (s : StoR C μ H S) : Q b H := p b H μ (Ext.refl _ _ _) r s
theorem Stt.ext {σ : L2.St} {δ : Env} {S1 : Sto} (h : Stt C μ H S σ δ) (e : Ext C.T μ H μ1 H1) (s : StoR C μ1 H1 S1) : Stt C μ1 H1 S1 σ δ := ⟨h.env.ext e, s, e.tabs h.tab, h.inv⟩
end
abbrev tE (C : Cfg) (E : XK) (f : Env → Sto → R D) : TE := tI C E f (Rep C)
abbrev tA (C : Cfg) (E : XK) (f : Env → Sto → R (List D)) : TA := tI C E f (RepL C)
abbrev tB' (C : Cfg) (E : XK) (f : Env → Sto → R Bool) : TT := tI C E f fun _ _ b a => b = a
abbrev tO' (C : Cfg) (E : XK) (f : Env → Sto → R (Option Int)) : TO := tI C E f fun _ _ b a => b = a
theorem PE.imp {X : Cx} {e : Expr} {t t' : TE} (h : PE X e t) (k : ∀ σ H Q, t' σ H Q → t σ H Q) : PE X e t' := ⟨fun pins s σ H Q I q => h.run pins s σ H Q I (k σ H Q q)⟩
theorem PT.imp {X : Cx} {e : Expr} {t t' : TT} (h : PT X e t) (k : ∀ σ H Q, t' σ H Q → t σ H Q) : PT X e t' := ⟨fun pins s σ H Q I q => h.run pins s σ H Q I (k σ H Q q)⟩
theorem PW.imp {X : Cx} {e : Expr} {t t' : TT} (h : PW X e t) (k : ∀ σ H Q, t' σ H Q → t σ H Q) : PW X e t' := ⟨fun wh pins s σ H Q I q => h.run wh pins s σ H Q I (k σ H Q q)⟩
theorem PA.imp {X : Cx} {es : List Expr} {t t' : TA} (h : PA X es t) (k : ∀ σ H Q, t' σ H Q → t σ H Q) : PA X es t' := ⟨fun pos pins s σ H Q I q => h.run pos pins s σ H Q I (k σ H Q q)⟩
theorem PO.imp {X : Cx} {e : Option Expr} {t t' : TO} (h : PO X e t) (k : ∀ σ H Q, t' σ H Q → t σ H Q) : PO X e t' := ⟨fun pins s σ H Q I q => h.run pins s σ H Q I (k σ H Q q)⟩
theorem PS.imp {X : Cx} {s : Stmt} {t t' : TS} (h : PS X s t) (k : ∀ D σ H, t' D σ H → t D σ H) : PS X s t' := ⟨fun pins s σ H D I q => h.run pins s σ H D I (k D σ H q)⟩
theorem PSs.imp {X : Cx} {s : List Stmt} {t t' : TS} (h : PSs X s t) (k : ∀ D σ H, t' D σ H → t D σ H) : PSs X s t' := ⟨fun pins s σ H D I q => h.run pins s σ H D I (k D σ H q)⟩
theorem PI.imp {X : Cx} {tg e : Expr} {t t' : TI} (h : PI X tg e t) (k : ∀ σ H Q, t' σ H Q → t σ H Q) : PI X tg e t' := ⟨fun pins s σ H Q I q => h.run pins s σ H Q I (k σ H Q q)⟩
/-! ### operators by values -/
/-- two values and the store, as the evaluator has them -/
def r2 (C : Cfg) (E : XK) (f : D → D → Sto → R D) : R2 := fun x y H Q => ∃ μ S a b, Rep C μ H x a ∧ Rep C μ H y b ∧ StoR C μ H S ∧ Tabs C.T H ∧ Pst C E μ H (f a b S) (Rep C) Q
section
variable {X : Cx} {C : Cfg} {E : XK}
/-- a new object of the written kind -/
theorem new_lst {μ : List Addr} {H : Hp} {S : Sto} {xs : List V} {ds : List D} {Q : VK} {p : Addr} (p0 : Pst C E μ H (.ok (.lst ds) S) (Rep C) Q) (s : StoR C μ H S) (r : RepL C μ H xs ds) (hp : H p = none) : Q (.ref p) (upd H p (.lst xs)) := by
  have n := s.notin hp
  have e : Ext C.T μ H μ (upd H p (.lst xs)) := Ext.new hp n
  exact p0.ok e (.lst upd_same n (s.noav hp) (r.ext e)) (s.new hp)
theorem new_ref {μ : List Addr} {H : Hp} {S : Sto} {xs : List V} {ds : List D} {Q : VK} {p : Addr} (p0 : Pst C E μ H (.ok (.ref S.length) (S ++ [.lst ds])) (Rep C) Q) (s : StoR C μ H S) (r : RepL C μ H xs ds) (hp : H p = none) : Q (.ref p) (upd H p (.lst xs)) := by
  refine p0.ok (Ext.push hp) (.ref ?_) (s.push hp r)
  rw [← s.len, List.getElem?_append_right (Nat.le_refl _), Nat.sub_self]
  rfl
theorem new_tup {μ : List Addr} {H : Hp} {S : Sto} {xs : List V} {ds : List D} {Q : VK} {p : Addr} (p0 : Pst C E μ H (.ok (.tup ds) S) (Rep C) Q) (s : StoR C μ H S) (r : RepL C μ H xs ds) (hp : H p = none) : Q (.ref p) (upd H p (.tup xs)) := by
  have n := s.notin hp
  have e : Ext C.T μ H μ (upd H p (.tup xs)) := Ext.new hp n
  exact p0.ok e (.tup (.inl ⟨upd_same, n⟩) (r.ext e)) (s.new hp)
theorem mulOk_ok {i j : Int} (h : mulOk i j = true) : IntMulOk i j := by
  simp only [mulOk, Bool.or_eq_true, Bool.and_eq_true, decide_eq_true_eq] at h
  rcases h with (h | h) | h
  · exact CMul.ok (.inl h)
  · exact CMul.ok (.inr h)
  · exact CMulW.ok h
theorem mulOp : OpR X (binaryOp .Mult) (rI (fun i j => mulOk i j = true) fun i j => .int (i * j)) := opI fun _ _ _ _ _ _ _ hc q => mul_int q (mulOk_ok hc)
theorem fdivOp : OpR X (binaryOp .FloorDiv) (rI (fun _ j => divOk j = true) fun i j => .int (i / j)) := opI fun i j _ _ _ _ _ hc q => by
  simp only [divOk, Bool.and_eq_true, Bool.or_eq_true, decide_eq_true_eq] at hc
  obtain ⟨h1, h2⟩ := hc
  refine floordiv_int (by omega) (by rw [Int.fdiv_eq_ediv_of_nonneg i (by omega)]; exact q) (.inl ?_)
  rcases h2 with h2 | h2
  · exact PyProof.noPylong_small (by omega)
  · exact PyProof.noPylong_of_log2 h2
def bop : BO → Operator
  | .add => .Add
  | .sub => .Sub
  | .mul => .Mult
  | .fdiv => .FloorDiv
  | .mod => .Mod
  | .pow => .Pow
  | .cat => .Add
  | .rep => .Mult
theorem binop_ok (hK : X.K = C.K) (o : BO) : OpR X (binaryOp (bop o)) (r2 C E (binop o)) := by
  obtain ⟨K, ga, T, xf, J, av⟩ := C
  cases hK
  intro pins s σ H x y v u Q I rx ry h
  obtain ⟨μ, S, a, b, ra, rb, st, tb, p⟩ := h
  -- lists joined
  have cat : ∀ {as bs : List D}, listOf S a = some as → listOf S b = some bs → (as.length + bs.length ≤ sizeLine) → Pst ⟨X.K, ga, T, xf, J, av⟩ E μ H (.ok (.lst (as ++ bs)) S) (Rep _) Q → wpAny (model X.prog X.w) X.A (binaryOp .Add v u) (EP X pins σ Q) X.xe s := fun {as bs} e1 e2 hl p => by
    obtain ⟨l, xs, rfl, h1, r1⟩ := list_at st ra e1
    obtain ⟨m, ys, rfl, h2, r2⟩ := list_at st rb e2
    refine op_cat pins s σ H _ _ v u Q I rx ry ⟨l, m, xs, ys, rfl, rfl, h1, h2, by rw [r1.length, r2.length]; exact hl, fun q hq => new_lst p st (r1.append r2) hq⟩
  have rep : ∀ {as : List D} {k : Int}, b = .int k → listOf S a = some as → (-(2 ^ 63) ≤ k ∧ k < 2 ^ 63 ∧ as.length * k.toNat ≤ sizeLine) → Pst ⟨X.K, ga, T, xf, J, av⟩ E μ H (.ok (.lst (List.replicate k.toNat as).flatten) S) (Rep _) Q → wpAny (model X.prog X.w) X.A (binaryOp .Mult v u) (EP X pins σ Q) X.xe s := fun {as k} eb e1 hl p => by
    subst eb
    cases rb
    obtain ⟨l, xs, rfl, h1, r1⟩ := list_at st ra e1
    refine op_rep pins s σ H _ _ v u Q I rx ry ⟨l, k, xs, rfl, rfl, h1, hl.1, hl.2.1, by rw [r1.length]; exact hl.2.2, fun q hq => new_lst p st (r1.rep _) hq⟩
  cases o with
  | add =>
    show wpAny _ _ (binaryOp .Add v u) _ _ _
    replace p : Pst ⟨X.K, ga, T, xf, J, av⟩ E μ H (addD a b S) (Rep _) Q := p
    unfold addD at p
    split at p
    · cases ra; cases rb
      exact op_add pins s σ H _ _ v u Q I rx ry ⟨_, _, rfl, rfl, p.here (.int _) st⟩
    · split at p
      · rename_i hl
        cases ra; cases rb
        exact op_add_str pins s σ H _ _ v u Q I rx ry ⟨_, _, rfl, rfl, hl, p.here (.str _) st⟩
      · exact p.elim
    · split at p
      · rename_i hl
        obtain ⟨l, xs, rfl, h1, r1⟩ := tup_at ra
        obtain ⟨m, ys, rfl, h2, r2⟩ := tup_at rb
        have l1 := r1.length
        have l2 := r2.length
        refine op_catA pins s σ H _ _ v u Q I rx ry ⟨l, m, xs, ys, rfl, rfl, h1.seq, h2.seq, by rw [l1, l2]; exact hl, fun z => ?_, fun z1 z => ?_, fun _ _ q hq => new_tup p st (r1.append r2) hq⟩
        · subst z
          cases r1
          exact p.here (.tup h2 r2) st
        · subst z
          cases r2
          rw [List.append_nil] at p
          exact p.here (.tup h1 r1) st
      · exact p.elim
    · split at p
      · rename_i e1 e2
        split at p
        · rename_i hl
          exact cat e1 e2 hl p
        · exact p.elim
      · exact p.elim
  | sub =>
    replace p : Pst ⟨X.K, ga, T, xf, J, av⟩ E μ H (subD a b S) (Rep _) Q := p
    unfold subD at p
    split at p
    · cases ra; cases rb
      exact op_sub pins s σ H _ _ v u Q I rx ry ⟨_, _, rfl, rfl, p.here (.int _) st⟩
    · exact p.elim
  | mul =>
    show wpAny _ _ (binaryOp .Mult v u) _ _ _
    replace p : Pst ⟨X.K, ga, T, xf, J, av⟩ E μ H (mulD a b S) (Rep _) Q := p
    unfold mulD at p
    split at p
    · split at p
      · rename_i hl
        cases ra; cases rb
        exact mulOp pins s σ H _ _ v u Q I rx ry ⟨_, _, rfl, rfl, hl, p.here (.int _) st⟩
      · exact p.elim
    · split at p
      · rename_i hl
        obtain ⟨l, xs, rfl, h1, r1⟩ := tup_at ra
        cases rb
        refine op_rep1 pins s σ H _ _ v u Q I rx ry ⟨l, _, xs, rfl, rfl, h1.seq, hl.1, hl.2.1, ?_, p.here (.tup h1 r1) st⟩
        have hq := hl.2.2
        rw [Bool.or_eq_true, List.isEmpty_iff, beq_iff_eq] at hq
        rcases hq with hq | hq
        · subst hq
          cases r1
          exact .inl rfl
        · exact .inr hq
      · split at p
        · rename_i hl
          obtain ⟨l, xs, rfl, h1, r1⟩ := tup_at ra
          cases rb
          have l1 := r1.length
          refine op_repT pins s σ H _ _ v u Q I rx ry ⟨l, _, xs, rfl, rfl, h1.seq, ?_, hl.2.1, hl.2.2.1, by rw [l1]; exact hl.2.2.2, fun q hq => new_tup p st (r1.rep _) hq⟩
          intro z
          subst z
          cases r1
          cases hl.1
        · split at p
          · rename_i hl
            obtain ⟨l, xs, rfl, h1, r1⟩ := tup_at ra
            cases rb
            refine op_rep0 pins s σ H _ _ v u Q I rx ry ⟨l, _, xs, rfl, rfl, h1.seq, ?_, hl.2.1, hl.2.2, fun q hq => new_tup p st .nil hq⟩
            intro z
            subst z
            cases r1
            cases hl.1
          · exact p.elim
    · split at p
      · rename_i e1
        split at p
        · rename_i hl
          exact rep rfl e1 hl p
        · exact p.elim
      · exact p.elim
    · exact p.elim
  | fdiv =>
    replace p : Pst ⟨X.K, ga, T, xf, J, av⟩ E μ H (fdivD a b S) (Rep _) Q := p
    unfold fdivD at p
    split at p
    · split at p
      · rename_i hl
        cases ra; cases rb
        exact fdivOp pins s σ H _ _ v u Q I rx ry ⟨_, _, rfl, rfl, hl, p.here (.int _) st⟩
      · exact p.elim
    · exact p.elim
  | mod =>
    replace p : Pst ⟨X.K, ga, T, xf, J, av⟩ E μ H (modD a b S) (Rep _) Q := p
    unfold modD at p
    split at p
    · split at p
      · rename_i hl
        cases ra; cases rb
        exact op_mod pins s σ H _ _ v u Q I rx ry ⟨_, _, rfl, rfl, hl, p.here (.int _) st⟩
      · exact p.elim
    · exact p.elim
  | pow =>
    replace p : Pst ⟨X.K, ga, T, xf, J, av⟩ E μ H (powD a b S) (Rep _) Q := p
    unfold powD at p
    split at p
    · split at p
      · rename_i hl
        cases ra; cases rb
        exact op_pow pins s σ H _ _ v u Q I rx ry ⟨_, _, rfl, rfl, hl, p.here (.int _) st⟩
      · exact p.elim
    · exact p.elim
  | cat =>
    show wpAny _ _ (binaryOp .Add v u) _ _ _
    replace p : Pst ⟨X.K, ga, T, xf, J, av⟩ E μ H (catD a b S) (Rep _) Q := p
    unfold catD at p
    split at p
    · rename_i e1 e2
      split at p
      · rename_i hl
        obtain ⟨l, xs, rfl, h1, r1⟩ := list_at st ra e1
        obtain ⟨m, ys, rfl, h2, r2⟩ := list_at st rb e2
        exact op_cat pins s σ H _ _ v u Q I rx ry ⟨l, m, xs, ys, rfl, rfl, h1, h2, by rw [r1.length, r2.length]; exact hl, fun q hq => new_ref p st (r1.append r2) hq⟩
      · exact p.elim
    · exact p.elim
  | rep =>
    show wpAny _ _ (binaryOp .Mult v u) _ _ _
    replace p : Pst ⟨X.K, ga, T, xf, J, av⟩ E μ H (repD a b S) (Rep _) Q := p
    unfold repD at p
    split at p
    · rename_i e1
      split at p
      · rename_i hl
        cases rb
        obtain ⟨l, xs, rfl, h1, r1⟩ := list_at st ra e1
        exact op_rep pins s σ H _ _ v u Q I rx ry ⟨l, _, xs, rfl, rfl, h1, hl.1, hl.2.1, by rw [r1.length]; exact hl.2.2, fun q hq => new_ref p st (r1.rep _) hq⟩
      · exact p.elim
    · exact p.elim
end
end IT
end
section
set_option Elab.async false
set_option linter.all false
set_option maxRecDepth 100000
set_option autoImplicit false
namespace IT
open PySem PySem.Spec PyProof.Rows L2
open LamX (Tabs TabS CodeO)
section
variable {X : Cx} {C : Cfg} {E : XK}
/-! ### comparisons by values -/
def cop : CO → CmpOp
  | .eq => .Eq
  | .ne => .NotEq
  | .lt => .Lt
  | .le => .LtE
  | .gt => .Gt
  | .ge => .GtE
  | .is => .Is
  | .isnot => .IsNot
  | .in_ => .In
  | .notin => .NotIn
theorem Rep.flat {μ : List Addr} {H : Hp} {v : V} {d : D} (r : Rep C μ H v d) (h : IT.flat d = true) : flatV v = true := by
  cases r <;> first | rfl | cases h
theorem Rep.eqF {μ : List Addr} {H : Hp} {v w : V} {d e : D} (r : Rep C μ H v d) (q : Rep C μ H w e) (h : IT.flat d = true) (h2 : IT.flat e = true) : eqV v w = IT.eqF d e := by
  cases r <;> cases q <;> first | rfl | (cases h; done) | (cases h2; done) | (simp [eqV, IT.eqF, Bool.beq_eq_decide_eq]; done) | (simp only [eqV, IT.eqF]; rw [Bool.eq_iff_iff]; simp)
theorem RepL.flat {μ : List Addr} {H : Hp} : ∀ {vs : List V} {ds : List D}, RepL C μ H vs ds → ds.all IT.flat = true → vs.all flatV = true
  | _, _, .nil, _ => rfl
  | _, _, .cons r t, h => by
    rw [List.all_cons, Bool.and_eq_true] at h ⊢
    exact ⟨r.flat h.1, RepL.flat t h.2⟩
theorem RepL.inV {μ : List Addr} {H : Hp} {w : V} {e : D} (q : Rep C μ H w e) (h2 : IT.flat e = true) : ∀ {vs : List V} {ds : List D}, RepL C μ H vs ds → ds.all IT.flat = true → L2.inV w vs = ds.any fun z => IT.eqF z e
  | _, _, .nil, _ => rfl
  | _, _, .cons r t, h => by
    rw [List.all_cons, Bool.and_eq_true] at h
    have ih := RepL.inV q h2 t h.2
    unfold L2.inV at ih ⊢
    rw [List.any_cons, List.any_cons, ih, r.eqF q h.1 h2]
/-- x in items: data of any depth -/
theorem in_any (hu : X.A.units + 64 < cLine) {μ : List Addr} {H : Hp} {pins : List (Addr × Obj)} {s : Shared} {σ : L2.St} {x : V} {v u : Value} {Q : VK} {a : D} {ys : List D} {p : Addr} {xs : List V} {k : Bool} (hK : X.K = C.K) (I : Inv X pins σ H s) (rx : RelV x v) (ry : RelV (.ref p) u)
    (ra : Rep C μ H x a) (r1 : RepL C μ H xs ys) (h1 : SqL X.K H p xs ∨ SqT X.K H p xs) (e : inAny a ys = some k) :
    (Q (.bl k) H → wpAny (model X.prog X.w) X.A (compareOp .In v u) (EP X pins σ Q) X.xe s) ∧ (Q (.bl (!k)) H → wpAny (model X.prog X.w) X.A (compareOp .NotIn v u) (EP X pins σ Q) X.xe s) := by
  unfold inAny at e
  split at e
  · rename_i d ds e1 e2
    split at e
    · rename_i hc
      cases e
      obtain ⟨as, q1⟩ := Dp.reads I d x v (by rw [hK]; exact ra.dp e1) rx
      have hr : X.A.units + 1 + min (PyData.depthAll ds) d.depth < cLine := by
        have := Nat.min_le_right (PyData.depthAll ds) d.depth
        omega
      rcases h1 with h1 | h1
      · obtain ⟨bs, q2⟩ := Dp.reads I (.list ds) (.ref p) u (.lst h1 (by rw [hK]; exact r1.dp e2)) ry
        exact ⟨fun q => SeqAt.in_list_reads q2 q1 hc.1 hc.2.1 hr ⟨.bl _, H, I, rfl, q⟩, fun q => SeqAt.notIn_list_reads q2 q1 hc.1 hc.2.1 hr ⟨.bl _, H, I, rfl, q⟩⟩
      · obtain ⟨bs, q2⟩ := Dp.reads I (.tuple ds) (.ref p) u (.tup h1 (by rw [hK]; exact r1.dp e2)) ry
        exact ⟨fun q => SeqAt.in_tuple_reads q2 q1 hc.1 hc.2.1 hr ⟨.bl _, H, I, rfl, q⟩, fun q => SeqAt.notIn_tuple_reads q2 q1 hc.1 hc.2.1 hr ⟨.bl _, H, I, rfl, q⟩⟩
    · cases e
  · cases e
theorem cmpR_ok {μ : List Addr} {H : Hp} {S : Sto} {o : CO} {a b : D} {Q : VK} (st : StoR C μ H S) (p : Pst C E μ H (cmpR o a b S) (Rep C) Q) : ∃ k, cmpop o a b S = some k ∧ Q (.bl k) H := by
  unfold cmpR at p
  cases q : cmpop o a b S with
  | none => rw [q] at p; exact p.elim
  | some k => rw [q] at p; exact ⟨k, rfl, p.here (.bl k) st⟩
theorem cmpop_ok (hK : X.K = C.K) (hu : X.A.units + 64 < cLine) (o : CO) : OpR X (compareOp (cop o)) (r2 C E (cmpR o)) := by
  obtain ⟨K, ga, T, xf, J, av⟩ := C
  cases hK
  intro pins s σ H x y v u Q I rx ry h
  obtain ⟨μ, S, a, b, ra, rb, st, tb, p⟩ := h
  obtain ⟨k, e, q⟩ := cmpR_ok st p
  have eqd : ∀ {k : Bool}, eqD S a b = some k → ∃ d e, Dp X.K H x d ∧ Dp X.K H y e ∧ SeqAt.shaped d = true ∧ SeqAt.shaped e = true ∧ k = PyData.eqv d e := fun {k} h => by
    unfold eqD at h
    cases e1 : dataOf S a with
    | none => rw [e1] at h; cases h
    | some d =>
      cases e2 : dataOf S b with
      | none => rw [e1, e2] at h; cases h
      | some e =>
        rw [e1, e2] at h
        by_cases hs : SeqAt.shaped d = true ∧ SeqAt.shaped e = true
        · have h' := (if_pos hs).symm.trans h
          exact ⟨d, e, data_dp st ra e1, data_dp st rb e2, hs.1, hs.2, (Option.some.inj h').symm⟩
        · have h' := (if_neg hs).symm.trans h
          cases h'
  have ini : ∀ {k : Bool}, inD S a b = some k → (∃ i j, x = .str i ∧ y = .str j ∧ k = (!(Builtin.Str.occurrences j i 0 j.length 1).isEmpty)) ∨ (∃ p xs, y = .ref p ∧ (SqL X.K H p xs ∨ SqT X.K H p xs) ∧ flatV x = true ∧ xs.all flatV = true ∧ k = L2.inV x xs) ∨ ∃ p xs ys, y = .ref p ∧ (SqL X.K H p xs ∨ SqT X.K H p xs) ∧ RepL ⟨X.K, ga, T, xf, J, av⟩ μ H xs ys ∧ inAny a ys = some k := fun {k} h => by
    unfold inD at h
    split at h
    · cases ra; cases rb
      exact .inl ⟨_, _, rfl, rfl, (Option.some.inj h).symm⟩
    · split at h
      · rename_i ys e1
        split at h
        · rename_i hf
          obtain ⟨p, xs, rfl, h1, r1⟩ := seq_at st rb e1
          exact .inr (.inl ⟨p, xs, rfl, h1, ra.flat hf.1, r1.flat hf.2, by rw [RepL.inV ra hf.1 r1 hf.2]; exact (Option.some.inj h).symm⟩)
        · obtain ⟨p, xs, rfl, h1, r1⟩ := seq_at st rb e1
          exact .inr (.inr ⟨p, xs, _, rfl, h1, r1, h⟩)
      · cases h
  have isn : ∀ {k : Bool}, isNone a b = some k → (y = .non ∧ k = decide (x = .non)) ∨ ∃ i j, x = .bl i ∧ y = .bl j ∧ k = (i == j) := fun {k} h => by
    unfold isNone at h
    split at h
    · cases rb
      refine .inl ⟨rfl, ?_⟩
      rw [← Option.some.inj h]
      cases ra <;> first | rfl | (symm; exact decide_eq_false (by intro z; cases z))
    · split at h
      · cases ra; cases rb
        exact .inr ⟨_, _, rfl, rfl, (Option.some.inj h).symm⟩
      · cases h
    · cases h
  have cmi : ∀ {f : Int → Int → Bool} {k : Bool}, cmpI f a b = some k → ∃ i j, x = .int i ∧ y = .int j ∧ k = f i j := fun {f k} h => by
    unfold cmpI at h
    split at h
    · cases ra; cases rb
      exact ⟨_, _, rfl, rfl, (Option.some.inj h).symm⟩
    · cases h
  cases o with
  | eq =>
    obtain ⟨d, e', h1, h2, h3, h4, rfl⟩ := eqd e
    exact op_eqD hu pins s σ H x y v u Q I rx ry ⟨d, e', h1, h2, h3, h4, q⟩
  | ne =>
    simp only [cmpop, Option.map_eq_some_iff] at e
    obtain ⟨k', e1, rfl⟩ := e
    obtain ⟨d, e', h1, h2, h3, h4, rfl⟩ := eqd e1
    exact op_neD hu pins s σ H x y v u Q I rx ry ⟨d, e', h1, h2, h3, h4, q⟩
  | lt =>
    replace e : ltD a b = some k := e
    unfold ltD at e
    split at e
    · cases ra; cases rb; cases e
      exact op_lt pins s σ H _ _ v u Q I rx ry ⟨_, _, rfl, rfl, q⟩
    · cases ra; cases rb; cases e
      exact op_lt_str pins s σ H _ _ v u Q I rx ry ⟨_, _, rfl, rfl, q⟩
    · split at e
      · rename_i e1 e2
        cases e
        obtain ⟨l, xs, rfl, h1, r1⟩ := tup_at ra
        obtain ⟨m, ys, rfl, h2, r2⟩ := tup_at rb
        have ex := r1.ints e1
        have ey := r2.ints e2
        subst ex ey
        exact op_ltT (by omega) pins s σ H _ _ v u Q I rx ry ⟨l, m, _, _, rfl, rfl, h1.seq, h2.seq, q⟩
      · cases e
    · cases e
  | le =>
    obtain ⟨i, j, rfl, rfl, rfl⟩ := cmi e
    exact op_le pins s σ H _ _ v u Q I rx ry ⟨_, _, rfl, rfl, q⟩
  | gt =>
    obtain ⟨i, j, rfl, rfl, rfl⟩ := cmi e
    exact op_gt pins s σ H _ _ v u Q I rx ry ⟨_, _, rfl, rfl, q⟩
  | ge =>
    obtain ⟨i, j, rfl, rfl, rfl⟩ := cmi e
    exact op_ge pins s σ H _ _ v u Q I rx ry ⟨_, _, rfl, rfl, q⟩
  | is =>
    rcases isn e with ⟨h1, rfl⟩ | ⟨i, j, rfl, rfl, rfl⟩
    · exact op_isN pins s σ H _ _ v u Q I rx ry ⟨h1, q⟩
    · exact op_isBl pins s σ H _ _ v u Q I rx ry ⟨_, _, rfl, rfl, q⟩
  | isnot =>
    simp only [cmpop, Option.map_eq_some_iff] at e
    obtain ⟨k', e1, rfl⟩ := e
    rcases isn e1 with ⟨h1, rfl⟩ | ⟨i, j, rfl, rfl, rfl⟩
    · exact op_notN pins s σ H _ _ v u Q I rx ry ⟨h1, q⟩
    · exact op_notBl pins s σ H _ _ v u Q I rx ry ⟨_, _, rfl, rfl, q⟩
  | in_ =>
    rcases ini e with ⟨i, j, rfl, rfl, rfl⟩ | ⟨p', xs, rfl, h1, h2, h3, rfl⟩ | ⟨p', xs, ys, rfl, h1, r1, e1⟩
    · exact op_in_str pins s σ H _ _ v u Q I rx ry ⟨i, j, rfl, rfl, q⟩
    · exact op_in_seq pins s σ H _ _ v u Q I rx ry ⟨p', xs, rfl, h1, h2, h3, q⟩
    · exact (in_any hu rfl I rx ry ra r1 h1 e1).1 q
  | notin =>
    simp only [cmpop, Option.map_eq_some_iff] at e
    obtain ⟨k', e1, rfl⟩ := e
    rcases ini e1 with ⟨i, j, rfl, rfl, rfl⟩ | ⟨p', xs, rfl, h1, h2, h3, rfl⟩ | ⟨p', xs, ys, rfl, h1, r1, e1⟩
    · exact op_notin_str pins s σ H _ _ v u Q I rx ry ⟨i, j, rfl, rfl, q⟩
    · exact op_notIn_seq pins s σ H _ _ v u Q I rx ry ⟨p', xs, rfl, h1, h2, h3, q⟩
    · exact (in_any hu rfl I rx ry ra r1 h1 e1).2 q
/-! ### truth -/
theorem truth_ok {μ : List Addr} {H : Hp} {S : Sto} {v : V} {d : D} {k : Bool} (st : StoR C μ H S) (r : Rep C μ H v d) (e : truth S d = some k) : TruV C.K v H k := by
  have emp : ∀ {vs : List V} {ds : List D}, RepL C μ H vs ds → (!ds.isEmpty) = !vs.isEmpty := fun {vs ds} r => by cases r <;> rfl
  have lst : ∀ {ds : List D}, listOf S d = some ds → k = (!ds.isEmpty) → TruV C.K v H k := fun {ds} h ek => by
    obtain ⟨a, xs, rfl, h1, r1⟩ := list_at st r h
    exact .inl ⟨xs, SqL.of h1, by rw [ek, emp r1]⟩
  cases d with
  | non => cases r; exact (Option.some.inj e).symm
  | bl b => cases r; exact (Option.some.inj e).symm
  | int i => cases r; exact (Option.some.inj e).symm
  | str x =>
    cases r
    simp only [truth] at e
    split at e
    · rename_i hl
      refine ⟨hl, ?_⟩
      rw [← Option.some.inj e]
      rw [Bool.eq_iff_iff]; simp [bne]
    · cases e
  | tup ds =>
    obtain ⟨a, xs, rfl, h1, r1⟩ := tup_at r
    exact .inr (.inl ⟨xs, h1.seq, by rw [← emp r1]; exact (Option.some.inj e).symm⟩)
  | lst ds =>
    simp only [truth, Option.map_eq_some_iff] at e
    obtain ⟨xs, e1, rfl⟩ := e
    exact lst e1 rfl
  | ref n =>
    simp only [truth, Option.map_eq_some_iff] at e
    obtain ⟨xs, e1, rfl⟩ := e
    exact lst e1 rfl
  | _ => simp [truth, listOf] at e
/-! ### subscripts -/
theorem index_ok (hK : X.K = C.K) : IxR X (r2 C E index) := by
  obtain ⟨K, ga, T, xf, J, av⟩ := C
  cases hK
  intro b hb pins s σ H x y v u Q I rx ry h
  obtain ⟨μ, S, a, i, ra, ri, st, tb, p⟩ := h
  unfold index at p
  have at_ : ∀ {μ : List Addr} {H : Hp} {vs : List V} {ds : List D} {i : Int} {d : D}, RepL ⟨X.K, ga, T, xf, J, av⟩ μ H vs ds → atI ds i = some d → ∃ v, atI vs i = some v ∧ Rep ⟨X.K, ga, T, xf, J, av⟩ μ H v d := fun {μ H vs ds i d} r e => by
    unfold atI at e ⊢
    rw [r.length]
    cases q : ixN ds.length i with
    | none => rw [q] at e; cases e
    | some j =>
      rw [q] at e
      obtain ⟨w, e1, r1⟩ := r.get (show ds[j]? = some d from e)
      exact ⟨w, e1, r1⟩
  split at p
  · split at p
    · rename_i hl
      split at p
      · rename_i c hc
        cases ra; cases ri
        exact ix_str b hb pins s σ H _ _ v u Q I rx ry ⟨_, _, c, rfl, rfl, hl, hc, p.here (.str _) st⟩
      · exact p.elim
    · exact p.elim
  · split at p
    · rename_i xs e1
      split at p
      · rename_i d hd
        cases ri
        obtain ⟨l, ys, rfl, h1, r1⟩ := seq_at st ra e1
        obtain ⟨w, e2, rw_⟩ := at_ r1 hd
        rcases h1 with h1 | h1
        · exact ix_list b hb pins s σ H _ _ v u Q I rx ry ⟨l, ys, _, w, rfl, rfl, h1, e2, p.here rw_ st⟩
        · exact ix_tup b hb pins s σ H _ _ v u Q I rx ry ⟨l, ys, _, w, rfl, rfl, h1, e2, p.here rw_ st⟩
      · exact p.elim
    · exact p.elim
  · exact p.elim
def rSl (C : Cfg) (E : XK) : V → Option Int → Option Int → Hp → VK → Prop := fun x lo hi H Q => ∃ μ S a, Rep C μ H x a ∧ StoR C μ H S ∧ Tabs C.T H ∧ Pst C E μ H (slice a lo hi S) (Rep C) Q
theorem cut_rep {μ : List Addr} {H : Hp} {vs : List V} {ds : List D} (r : RepL C μ H vs ds) (lo hi : Option Int) : RepL C μ H (cutV vs lo hi) (cutD ds lo hi) := by
  unfold cutV cutD
  rw [r.length]
  exact (r.drop _).take _
theorem slice_ok (hK : X.K = C.K) : SlR X (rSl C E) := by
  obtain ⟨K, ga, T, xf, J, av⟩ := C
  cases hK
  intro pins s σ H x v vl vu lo hi sl Q I rx hs pl pu h
  obtain ⟨μ, S, a, ra, st, tb, p⟩ := h
  unfold slice at p
  split at p
  · split at p
    · rename_i hl
      cases ra
      exact sl_str pins s σ H _ v vl vu lo hi sl Q I rx hs pl pu ⟨_, rfl, hl, p.here (.str _) st⟩
    · exact p.elim
  · obtain ⟨l, ys, rfl, h1, r1⟩ := tup_at ra
    refine sl_tupA pins s σ H _ v vl vu lo hi sl Q I rx hs pl pu ⟨l, ys, rfl, h1.seq, fun hw => ?_, fun _ q hq => new_tup p st (cut_rep r1 lo hi) hq⟩
    rename_i ds
    have e : cutD ds lo hi = ds := by
      unfold cutD
      rw [r1.length] at hw
      rw [hw.1, hw.2, List.drop_zero, Nat.sub_zero]
      exact List.take_of_length_le (Nat.le_refl _)
    rw [e] at p
    exact p.here (.tup h1 r1) st
  · split at p
    · rename_i ds e1
      obtain ⟨l, ys, rfl, h1, r1⟩ := list_at st ra e1
      exact sl_list pins s σ H _ v vl vu lo hi sl Q I rx hs pl pu ⟨l, ys, rfl, SqL.of h1, fun q hq => new_lst p st (cut_rep r1 lo hi) hq⟩
    · exact p.elim
end
end IT
end
section
set_option Elab.async false
set_option linter.all false
set_option maxRecDepth 100000
set_option autoImplicit false
namespace IT
open PySem PySem.Spec PyProof.Rows L2
open LamX (Tabs TabS CodeO)
section
variable {X : Cx} {C : Cfg} {E : XK}
/-! ### built-in functions by values -/
def biV : BI → Value
  | .len => .builtin "len"
  | .abs => .builtin "abs"
  | .int => .type "int"
  | .tuple => .type "tuple"
  | .list => .type "list"
  | .all => .builtin "all"
  | .any => .builtin "any"
  | .gcd => .builtin "math.gcd"
  | .sum => .builtin "sum"
  | .str => .type "str"
  | .nlist => .type "list"
  | .sorted => .builtin "sorted"
def rBi (C : Cfg) (E : XK) (b : BI) : List V → Hp → VK → Prop := fun vs H Q => ∃ μ S ds, RepL C μ H vs ds ∧ StoR C μ H S ∧ Tabs C.T H ∧ Pst C E μ H (bins b ds S) (Rep C) Q
theorem rep1 {μ : List Addr} {H : Hp} {vs : List V} {d : D} (r : RepL C μ H vs [d]) : ∃ v, vs = [v] ∧ Rep C μ H v d := by
  cases r with
  | cons r t =>
    cases t
    exact ⟨_, rfl, r⟩
theorem rep2 {μ : List Addr} {H : Hp} {vs : List V} {d e : D} (r : RepL C μ H vs [d, e]) : ∃ v w, vs = [v, w] ∧ Rep C μ H v d ∧ Rep C μ H w e := by
  cases r with
  | cons r t =>
    obtain ⟨w, rfl, q⟩ := rep1 t
    exact ⟨_, _, rfl, r, q⟩
/-! sorted -/
theorem leD_total : PySem.W.TotalLe leD := show PySem.W.TotalLe (PySem.W.dataLe false dOf) from PySem.W.sortLe_total _ false _
theorem srtD_eq : ∀ l : List D, srtD l = l.mergeSort leD
  | [] => by simp [srtD]
  | a :: l => by
    obtain ⟨l1, l2, e1, e2, e3⟩ := List.mergeSort_cons (le := leD) leD_total.trans (fun a b => Bool.or_eq_true_iff.mpr (leD_total.total a b)) a l
    have hp := PySem.W.sort_pairwise leD_total (a :: l)
    rw [e1] at hp
    rw [srtD, srtD_eq l, e2, e1]
    have h2 : ∀ b ∈ l2, leD a b = true := fun b hb => by
      have q := (List.pairwise_append.mp hp).2.1
      exact (List.pairwise_cons.mp q).1 b hb
    clear e1 e2 hp
    induction l1 with
    | nil =>
      cases l2 with
      | nil => rfl
      | cons b r => simp only [List.nil_append, insD, if_pos (h2 b List.mem_cons_self)]
    | cons b r ih =>
      have n : ¬ leD a b = true := by
        have := e3 b List.mem_cons_self
        cases h : leD a b <;> simp_all
      simp only [List.cons_append, insD, if_neg n]
      rw [ih fun c hc => e3 c (List.mem_cons_of_mem _ hc)]
theorem RepL.each {μ : List Addr} {H : Hp} : ∀ {vs : List V} {ds : List D} {us : List Value}, RepL C μ H vs ds → Vals vs us → PySem.W.EachIs (fun u d => ∃ v, Rep C μ H v d ∧ RelV v u) us ds
  | _, _, _, .nil, r => by cases r; exact .nil
  | _, _, _, .cons h t, r => by
    cases r with
    | cons r1 r2 => exact .cons ⟨_, h, r1⟩ (RepL.each t r2)
theorem RepL.back {μ : List Addr} {H : Hp} : ∀ {us : List Value} {ds : List D}, PySem.W.EachIs (fun u d => ∃ v, Rep C μ H v d ∧ RelV v u) us ds → ∃ vs, RepL C μ H vs ds ∧ Vals vs us
  | _, _, .nil => ⟨[], .nil, .nil⟩
  | _, _, .cons ⟨v, h1, h2⟩ t => by
    obtain ⟨vs, k1, k2⟩ := RepL.back t
    exact ⟨v :: vs, .cons h1 k1, .cons h2 k2⟩
theorem dOf_map : ∀ {ds : List D} {ps : List PyData}, D.pures? ds = some ps → ds.map dOf = ps
  | [], _, e => by simp [D.pures?] at e; subst e; rfl
  | d :: ds, _, e => by
    simp only [D.pures?] at e
    cases e1 : D.pure? d with
    | none => rw [e1] at e; cases e
    | some p =>
      cases e2 : D.pures? ds with
      | none => rw [e1, e2] at e; cases e
      | some ps =>
        rw [e1, e2] at e
        cases e
        rw [List.map_cons, dOf_map e2]
        simp [dOf, e1]
theorem sortOk_parts {ps : List PyData} (h : sortOk ps = true) : PySem.W.AllAlike ps ∧ PySem.W.Sortable ps ∧ ps.length ≤ sizeLine ∧ ∀ p ∈ ps, p.depth ≤ 60 := by
  unfold sortOk at h
  simp only [Bool.and_eq_true, Bool.or_eq_true, List.all_eq_true, decide_eq_true_eq] at h
  obtain ⟨⟨⟨h1, h2⟩, h3⟩, h4⟩ := h
  refine ⟨fun d hd e he => h1 d hd e he, ?_, h3, h4⟩
  rcases h2 with h2 | h2
  · refine .inl fun d hd => ?_
    have := h2 d hd
    unfold isTupNe at this
    split at this
    · exact ⟨_, _, rfl⟩
    · cases this
  · refine .inr fun d hd => ?_
    have := h2 d hd
    unfold notTN at this
    split at this
    · cases this
    · cases this
    · rename_i a b
      exact ⟨a, fun xs => b xs⟩
theorem sorted_ok (hK : X.K = C.K) (hu : X.A.units + 64 < cLine) {μ : List Addr} {S : Sto} {H : Hp} {pins : List (Addr × Obj)} {s : Shared} {σ : L2.St} {a : Addr} {xs : List V} {ds : List D} {ps : List PyData} {Q : VK} (I : Inv X pins σ H s) (st : StoR C μ H S)
    (hs : H a = some (.lst xs)) (r1 : RepL C μ H xs ds) (e : D.pures? ds = some ps) (ok : sortOk ps = true) (p : Pst C E μ H (.ok (.lst (srtD ds)) S) (Rep C) Q) :
    wpAny (model X.prog X.w) X.A (call (.builtin "sorted") [.ref a]) (EP X pins σ Q) X.xe s := by
  obtain ⟨its, rv, pl, hz⟩ := I.list (SqL.of hs)
  obtain ⟨h1, h2, h3, h4⟩ := sortOk_parts ok
  have em := dOf_map e
  have el : ds.length = ps.length := by rw [← em, List.length_map]
  obtain ⟨as, ra⟩ := Dp.readsAll I ps xs its (by rw [hK]; exact r1.dp e) rv
  rw [← em] at ra h1 h2
  refine PySem.W.sorted_data (enc := dOf) (R := fun u d => ∃ v, Rep C μ H v d ∧ RelV v u) pl.isList (r1.each rv) (PySem.W.readsAll_each dOf ra) h1 h2 (by omega) (fun b hb => ?_) fun out ho eo => ?_
  · have := h4 (dOf b) (by rw [← em]; exact List.mem_map_of_mem hb)
    omega
  · have e1 : ds.mergeSort (PySem.W.dataLe false dOf) = srtD ds := (srtD_eq ds).symm
    rw [e1] at eo
    obtain ⟨vs, k1, k2⟩ := RepL.back eo
    obtain ⟨ep, he'⟩ := PyProof.Rows.sortedAll_at s.heap its out.toArray
    have hlen : vs.length ≤ sizeLine := by
      rw [k2.length, ho]
      omega
    exact ⟨.ref _, upd H (s.heap.objs.size + 1) (.lst vs), I.laid (t' := s.toks) (fun _ _ => PyProof.Rows.sortedAll_old) (Nat.le_succ _) ⟨hlen, out, ep, k2, he'⟩, rfl, new_lst p st k1 (I.hok.fresh (Nat.le_succ _))⟩
theorem bins_ok (hK : X.K = C.K) (hu : X.A.units + 64 < cLine) (hc : X.calm = true) (b : BI) : CallR X (biV b) (rBi C E b) := by
  obtain ⟨K, ga, T, xf, J, av⟩ := C
  cases hK
  intro pins s σ H vs us Q I rv h
  obtain ⟨μ, S, ds, rd, st, tb, p⟩ := h
  unfold bins at p
  split at p
  · -- len of a text
    split at p
    · rename_i hl
      obtain ⟨v, rfl, r⟩ := rep1 rd
      cases r
      exact call_len_str pins s σ H _ us Q I rv ⟨_, rfl, hl, p.here (.int _) st⟩
    · exact p.elim
  · split at p
    · rename_i xs e1
      obtain ⟨v, rfl, r⟩ := rep1 rd
      obtain ⟨a, ys, rfl, h1, r1⟩ := seqOf_at st r e1
      exact call_len_seq pins s σ H _ us Q I rv ⟨a, ys, rfl, h1, by rw [r1.length]; exact p.here (.int _) st⟩
    · exact p.elim
  · obtain ⟨v, rfl, r⟩ := rep1 rd
    cases r
    exact call_abs pins s σ H _ us Q I rv ⟨_, rfl, p.here (.int _) st⟩
  · obtain ⟨v, rfl, r⟩ := rep1 rd
    cases r
    exact call_int1 pins s σ H _ us Q I rv (.inl ⟨_, rfl, p.here (.int _) st⟩)
  · obtain ⟨v, rfl, r⟩ := rep1 rd
    cases r
    exact call_int1 pins s σ H _ us Q I rv (.inr ⟨_, rfl, p.here (.int _) st⟩)
  · obtain ⟨v, rfl, r⟩ := rep1 rd
    obtain ⟨a, ys, rfl, h1, r1⟩ := tup_at r
    exact call_tuple_of pins s σ H _ us Q I rv ⟨a, ys, rfl, .inr ⟨h1.seq, p.here (.tup h1 r1) st⟩⟩
  · split at p
    · rename_i xs e1
      obtain ⟨v, rfl, r⟩ := rep1 rd
      obtain ⟨a, ys, rfl, h1, r1⟩ := list_at st r e1
      exact call_tuple_of pins s σ H _ us Q I rv ⟨a, ys, rfl, .inl ⟨SqL.of h1, fun l hl => new_tup p st r1 hl⟩⟩
    · exact p.elim
  · split at p
    · rename_i xs e1
      obtain ⟨v, rfl, r⟩ := rep1 rd
      obtain ⟨a, ys, rfl, h1, r1⟩ := seqOf_at st r e1
      exact call_list_of pins s σ H _ us Q I rv ⟨a, ys, rfl, h1, fun l hl => new_lst p st r1 hl⟩
    · exact p.elim
  · split at p
    · rename_i xs e1
      obtain ⟨v, rfl, r⟩ := rep1 rd
      obtain ⟨a, ys, rfl, h1, r1⟩ := seqOf_at st r e1
      exact call_list_of pins s σ H _ us Q I rv ⟨a, ys, rfl, h1, fun l hl => new_ref p st r1 hl⟩
    · exact p.elim
  · split at p
    · rename_i xs e1
      split at p
      · rename_i bs e2
        obtain ⟨v, rfl, r⟩ := rep1 rd
        obtain ⟨a, ys, rfl, h1, r1⟩ := list_at st r e1
        have ey := r1.bls e2
        subst ey
        exact cr_all hc pins s σ H _ us Q I rv ⟨a, bs, rfl, SqL.of h1, p.here (.bl _) st⟩
      · exact p.elim
    · exact p.elim
  · split at p
    · rename_i xs e1
      split at p
      · rename_i bs e2
        obtain ⟨v, rfl, r⟩ := rep1 rd
        obtain ⟨a, ys, rfl, h1, r1⟩ := list_at st r e1
        have ey := r1.bls e2
        subst ey
        exact cr_any hc pins s σ H _ us Q I rv ⟨a, bs, rfl, SqL.of h1, p.here (.bl _) st⟩
      · exact p.elim
    · exact p.elim
  · obtain ⟨v, w, rfl, r, q⟩ := rep2 rd
    cases r; cases q
    exact cr_gcd pins s σ H _ us Q I rv ⟨_, _, rfl, p.here (.int _) st⟩
  · split at p
    · rename_i xs e1
      split at p
      · rename_i ns e2
        obtain ⟨v, rfl, r⟩ := rep1 rd
        obtain ⟨a, ys, rfl, h1, r1⟩ := list_at st r e1
        have ey := r1.ints e2
        subst ey
        exact cr_sum hc pins s σ H _ us Q I rv ⟨a, ns, rfl, SqL.of h1, p.here (.int _) st⟩
      · exact p.elim
    · exact p.elim
  · split at p
    · rename_i hl
      obtain ⟨v, rfl, r⟩ := rep1 rd
      cases r
      exact call_str_int pins s σ H _ us Q I rv ⟨_, rfl, hl, p.here (.str _) st⟩
    · exact p.elim
  · split at p
    · rename_i xs e1
      split at p
      · rename_i ps e2
        split at p
        · rename_i ok
          obtain ⟨v, rfl, r⟩ := rep1 rd
          obtain ⟨a, ys, rfl, h1, r1⟩ := list_at st r e1
          obtain ⟨u, rfl, ru⟩ := vals1 rv
          obtain rfl : u = Value.ref a := ru
          exact sorted_ok rfl hu I st h1 r1 e2 ok p
        · exact p.elim
      · exact p.elim
    · exact p.elim
  · exact p.elim
/-! ### isinstance of a built-in type -/
def rIs (C : Cfg) (E : XK) (t : String) : List V → Hp → VK → Prop := fun vs H Q => ∃ μ S v a, vs = [v, .ty t] ∧ Rep C μ H v a ∧ StoR C μ H S ∧ Tabs C.T H ∧ Pst C E μ H (isiD t a S) (Rep C) Q
theorem isi_ok (hK : X.K = C.K) (t : String) : CallR X (.builtin "isinstance") (rIs C E t) := by
  obtain ⟨K, ga, T, xf, J, av⟩ := C
  cases hK
  intro pins s σ H vs us Q I rv h
  obtain ⟨μ, S, v, a, rfl, ra, st, tb, p⟩ := h
  unfold isiD at p
  split at p
  · rename_i u hu
    split at p
    · rename_i b hb
      have ty : ∀ {u' : Value}, TyX X.K H v (.type u) → Q (.bl b) H → wpAny (model X.prog X.w) X.A (call (.builtin "isinstance") us) (EP X pins σ Q) X.xe s := fun {u'} ty q =>
        call_isi pins s σ H _ us Q I rv ⟨v, .ty t, _, _, b, rfl, .ty t, ty, kit_ty hb, q⟩
      cases a with
      | non => cases hu; cases ra; exact ty (u' := .none) (.base .non) (p.here (.bl _) st)
      | bl y => cases hu; cases ra; exact ty (u' := .none) (.base (.bl _)) (p.here (.bl _) st)
      | int i => cases hu; cases ra; exact ty (u' := .none) (.base (.int _)) (p.here (.bl _) st)
      | str y => cases hu; cases ra; exact ty (u' := .none) (.base (.str _)) (p.here (.bl _) st)
      | lst xs =>
        cases hu
        obtain ⟨l, ys, rfl, h1, r1⟩ := list_at (ds := xs) st ra rfl
        exact ty (u' := .none) (.base (.lst h1)) (p.here (.bl _) st)
      | ref n =>
        cases hu
        simp only at p
        split at p
        · rename_i xs e1
          obtain ⟨l, ys, rfl, h1, r1⟩ := list_at (ds := xs) st ra (by simp [listOf, e1])
          exact ty (u' := .none) (.base (.lst h1)) (p.here (.bl _) st)
        · exact p.elim
      | tup xs =>
        cases hu
        obtain ⟨l, ys, rfl, h1, r1⟩ := tup_at ra
        have q : Q (.bl b) H := p.here (.bl _) st
        obtain ⟨u1, u2, rfl, e1, e2⟩ := Vals.two rv
        cases e1
        cases e2
        obtain ⟨its, rr, ⟨o, g1, g2, _⟩, _⟩ := I.tuple h1.seq
        exact PySem.W.kia_one PySem.W.kitx_tuple I.kIn ⟨o, g1, g2⟩ (kit_ty hb) (fun z => nomatch z) fun tk => ⟨.bl b, H, I.kept (t' := tk) fun _ _ z => z, rfl, q⟩
      | _ => cases hu
    · exact p.elim
  · exact p.elim
/-! ### append -/
def rApp (C : Cfg) (E : XK) : V → List V → Hp → VK → Prop := fun x vs H Q => ∃ μ S y a b, vs = [y] ∧ Rep C μ H x a ∧ Rep C μ H y b ∧ StoR C μ H S ∧ Tabs C.T H ∧ Pst C E μ H (append a b S) (Rep C) Q
theorem append_ok (hK : X.K = C.K) {x : V} {vs : List V} {H : Hp} {Q : VK} (h : rApp C E x vs H Q) : rAppend x vs H Q ∧ tyV X.K "list" x H := by
  obtain ⟨K, ga, T, xf, J, av⟩ := C
  cases hK
  obtain ⟨μ, S, y, a, b, rfl, ra, rb, st, tb, p⟩ := h
  unfold append at p
  split at p
  · rename_i n
    split at p
    · rename_i xs e1
      split at p
      · rename_i hl
        cases ra with
        | ref hm =>
          rename_i l
          obtain ⟨a', h0, ys, h1, r1⟩ := st.at_ n _ e1
          rw [hm] at h0
          cases h0
          refine ⟨⟨l, ys, y, rfl, rfl, h1, by rw [r1.length]; exact hl, ?_⟩, .inl ⟨rfl, _, SqL.of h1⟩⟩
          exact p.ok (Ext.write h1 (List.mem_of_getElem? hm)) .non (st.set e1 hm h1 (r1.append (.one rb)))
      · exact p.elim
    · exact p.elim
  · exact p.elim
/-! ### x[i] = y -/
theorem setAt_ok {μ : List Addr} {H : Hp} {S S' : Sto} {o i y : V} {a k b : D} {Q : Hp → Prop} (st : StoR C μ H S) (ra : Rep C μ H o a) (rk : Rep C μ H i k) (rb : Rep C μ H y b) (e : setAt a k b S = some S')
    (q : ∀ H', Ext C.T μ H μ H' → StoR C μ H' S' → Q H') : rSetL o i y H Q := by
  unfold setAt at e
  split at e
  · rename_i n j
    split at e
    · rename_i xs e1
      simp only [Option.map_eq_some_iff] at e
      obtain ⟨m, em, rfl⟩ := e
      cases ra with
      | ref hm =>
        cases rk
        rename_i l
        obtain ⟨a', h0, ys, h1, r1⟩ := st.at_ n _ e1
        rw [hm] at h0
        cases h0
        exact ⟨l, ys, j, m, rfl, rfl, h1, by rw [r1.length]; exact em, q _ (Ext.write h1 (List.mem_of_getElem? hm)) (st.set e1 hm h1 (RepL.set rb m r1))⟩
    · cases e
  · cases e
/-! ### join -/
theorem join_ok (hK : X.K = C.K) {μ : List Addr} {H : Hp} {S : Sto} {x y : V} {a b : D} {Q : VK} (st : StoR C μ H S) (ra : Rep C μ H x a) (rb : Rep C μ H y b) (p : Pst C E μ H (joinD a b S) (Rep C) Q) :
    ∃ z p, ∃ ys : List Str, x = .str z ∧ y = .ref p ∧ (SqL X.K H p (ys.map V.str) ∨ SqT X.K H p (ys.map V.str)) ∧ (ys.map (·.length)).sum + ys.length * z.length ≤ 16777216 ∧ Q (.str (Txt.join z ys)) H := by
  obtain ⟨K, ga, T, xf, J, av⟩ := C
  cases hK
  unfold joinD at p
  split at p
  · rename_i xs e1
    split at p
    · rename_i ys e2
      split at p
      · rename_i hl
        cases ra
        obtain ⟨l, vs, rfl, h1, r1⟩ := seq_at st rb e1
        have ey := r1.strs e2
        subst ey
        exact ⟨_, l, ys, rfl, rfl, h1, hl, p.here (.str _) st⟩
      · exact p.elim
    · exact p.elim
  · exact p.elim
end
end IT
end
section
set_option Elab.async false
set_option linter.all false
set_option maxRecDepth 100000
set_option autoImplicit false
namespace IT
open PySem PySem.Spec PyProof.Rows L2 HotX L2H
section
variable {prog : Program} {w : World} {A : Around} {E : Value → Shared → Prop} {s : Shared}
/-! ### while an exception is handled: the end of a list's and of a tuple's iterator -/
theorem list_end_hot {it l x1 : Addr} {i : Nat} {items : Array Value} {Q : Option Value → Shared → Prop} (hot : HotAt A x1 s.heap) (hne : x1 ≠ it)
    (hit : s.heap.IsListIter it l i) (hl : s.heap.IsList l items) (hx : items[i]? = none)
    (hQ : ∀ h', Heap.ExtBut it s.heap h' → Q none { s with heap := h' }) : wpAny (model prog w) A (pyNext (.ref it)) Q E s := by
  obtain ⟨hh, o1, vs1, h1, d1, c1⟩ := hot
  obtain ⟨o, ho, hc, hd⟩ := id hit
  obtain ⟨ol, hol, _, nl, hdl⟩ := hl
  unfold pyNext
  refine wpAny_bind (wpAny_attempt (wpAny_callSpecial?_slot (name := Str.ofString "__next__") hit.typeIs slot_listiter_next
    (wpAny_call_entry slot_listiter_next hit.typeIs entry_listiter_next ?_ (args_listiter_next _))))
  show wpAny _ _ (field (.ref it) 0 >>= _) _ _ s
  refine wpAny_bind (wpAny_field ho hd (x := .ref l) rfl ?_)
  show wpAny _ _ (if (Value.ref l == Value.none) = true then _ else _) _ _ s
  rw [if_neg (show ¬ ((Value.ref l == Value.none) = true) from Bool.false_ne_true)]
  show wpAny _ _ (field (.ref it) 1 >>= _) _ _ s
  refine wpAny_bind (wpAny_field ho hd (x := .int i 0) rfl ?_)
  show wpAny _ _ (seqItems? (.ref l) >>= _) _ _ s
  refine wpAny_bind (wpAny_seqItems hol hdl ?_)
  simp only [Int.toNat_natCast, hx]
  refine wpAny_bind (wpAny_rule (wpAny_bind (wpAny_setField ho hd (by simp) ?_)))
  have k1 : (s.heap.update it (Obj.mapFields (·.setIfInBounds 0 .none))).get? x1 = some o1 := by rw [Heap.get?_update_other _ _ (fun z => hne z.symm)]; exact h1
  show wpAny _ _ (newExc (.type "StopIteration") [] >>= _) _ _ _
  refine wpAny_bind ?_
  simp only [newExc, newTuple]
  refine wpAny_bind (wpAny_newObj_type ?_ (by size_fits))
  refine wpAny_bind (m := firstArgMember _ _) (wpAny_of_eq (a := Value.none) (by first | rfl | (simp only [firstArgMember]; rfl)) ?_)
  refine wpAny_newObj_type ?_ (by size_fits)
  refine raiseNew_hot ⟨hh, o1, vs1, Heap.get?_push_of_some _ (Heap.get?_push_of_some _ k1), d1, c1⟩ (Nat.ne_of_lt (Heap.lt_size (Heap.get?_push_of_some _ k1))) (Heap.get?_push_size _ rfl) rfl (by first | (simp; done) | (simp; omega) | (simp only [Array.size_append]; simp; omega)) ?_
  refine wpAny_bind (wpAny_isInstance (T := "StopIteration") (b := true) ⟨_, Heap.get?_update_self _ (Heap.get?_push_size _ rfl) rfl, rfl⟩ isSubtype_stop ?_)
  refine wpAny_pure (hQ _ fun b o hb e => ?_)
  have e2 : (s.heap.update it (Obj.mapFields (·.setIfInBounds 0 .none))).get? b = some o := by rw [Heap.get?_update_other _ _ (fun z => hb z.symm)]; exact e
  rw [Heap.get?_update_other _ _ (Nat.ne_of_gt (Heap.lt_size (Heap.get?_push_of_some _ e2)))]
  exact Heap.get?_push_of_some _ (Heap.get?_push_of_some _ e2)
theorem tup_end_hot {it t x1 : Addr} {i : Nat} {items : Array Value} {Q : Option Value → Shared → Prop} (hot : HotAt A x1 s.heap) (hne : x1 ≠ it)
    (hit : IsTupIter s.heap it t i) (ht : IsTup s.heap t items) (hx : items[i]? = none)
    (hQ : ∀ h', Heap.ExtBut it s.heap h' → Q none { s with heap := h' }) : wpAny (model prog w) A (pyNext (.ref it)) Q E s := by
  obtain ⟨hh, o1, vs1, h1, d1, c1⟩ := hot
  obtain ⟨o, ho, hc, hd⟩ := id hit
  obtain ⟨ol, hol, _, nl, hdl⟩ := ht
  unfold pyNext
  refine wpAny_bind (wpAny_attempt (wpAny_callSpecial?_slot (name := Str.ofString "__next__") hit.typeIs slot_tupleiter_next
    (wpAny_call_entry slot_tupleiter_next hit.typeIs entry_tupleiter_next ?_ (args_tupleiter_next _))))
  show wpAny _ _ (field (.ref it) 0 >>= _) _ _ s
  refine wpAny_bind (wpAny_field ho hd (x := .ref t) rfl ?_)
  show wpAny _ _ (if (Value.ref t == Value.none) = true then _ else _) _ _ s
  rw [if_neg (show ¬ ((Value.ref t == Value.none) = true) from Bool.false_ne_true)]
  show wpAny _ _ (field (.ref it) 1 >>= _) _ _ s
  refine wpAny_bind (wpAny_field ho hd (x := .int i 0) rfl ?_)
  show wpAny _ _ (seqItems? (.ref t) >>= _) _ _ s
  refine wpAny_bind (wpAny_seqItems hol hdl ?_)
  simp only [Int.toNat_natCast, hx]
  refine wpAny_bind (wpAny_rule (wpAny_bind (wpAny_setField ho hd (by simp) ?_)))
  have k1 : (s.heap.update it (Obj.mapFields (·.setIfInBounds 0 .none))).get? x1 = some o1 := by rw [Heap.get?_update_other _ _ (fun z => hne z.symm)]; exact h1
  show wpAny _ _ (newExc (.type "StopIteration") [] >>= _) _ _ _
  refine wpAny_bind ?_
  simp only [newExc, newTuple]
  refine wpAny_bind (wpAny_newObj_type ?_ (by size_fits))
  refine wpAny_bind (m := firstArgMember _ _) (wpAny_of_eq (a := Value.none) (by first | rfl | (simp only [firstArgMember]; rfl)) ?_)
  refine wpAny_newObj_type ?_ (by size_fits)
  refine raiseNew_hot ⟨hh, o1, vs1, Heap.get?_push_of_some _ (Heap.get?_push_of_some _ k1), d1, c1⟩ (Nat.ne_of_lt (Heap.lt_size (Heap.get?_push_of_some _ k1))) (Heap.get?_push_size _ rfl) rfl (by first | (simp; done) | (simp; omega) | (simp only [Array.size_append]; simp; omega)) ?_
  refine wpAny_bind (wpAny_isInstance (T := "StopIteration") (b := true) ⟨_, Heap.get?_update_self _ (Heap.get?_push_size _ rfl) rfl, rfl⟩ isSubtype_stop ?_)
  refine wpAny_pure (hQ _ fun b o hb e => ?_)
  have e2 : (s.heap.update it (Obj.mapFields (·.setIfInBounds 0 .none))).get? b = some o := by rw [Heap.get?_update_other _ _ (fun z => hb z.symm)]; exact e
  rw [Heap.get?_update_other _ _ (Nat.ne_of_gt (Heap.lt_size (Heap.get?_push_of_some _ e2)))]
  exact Heap.get?_push_of_some _ (Heap.get?_push_of_some _ e2)
theorem HotAt.keep {x1 : Addr} {h h' : Heap} (hot : HotAt A x1 h) (k : ∀ o, h.get? x1 = some o → h'.get? x1 = some o) : HotAt A x1 h' := let ⟨hh, o, vs, e, r⟩ := hot; ⟨hh, o, vs, k _ e, r⟩
theorem HotAt.lt {x1 : Addr} {h : Heap} (hot : HotAt A x1 h) : x1 < h.objs.size := let ⟨_, _, _, e, _⟩ := hot; Heap.lt_size e
/-- a, b, .. = a tuple, hot -/
theorem unpack_tup_hot {t x1 : Addr} {items : Array Value} {Q : List Value → Shared → Prop} (hot : HotAt A x1 s.heap) (ht : IsTup s.heap t items)
    (hQ : ∀ h', Heap.ExtBut s.heap.objs.size s.heap h' → Q items.toList { s with heap := h' }) : wpAny (model prog w) A (unpackItems (.ref t) items.size none) Q E s := by
  have hlt : t ≠ s.heap.objs.size := by obtain ⟨o, ho, _⟩ := ht; exact Nat.ne_of_lt (Heap.lt_size ho)
  have hlx : x1 ≠ s.heap.objs.size := Nat.ne_of_lt (HotAt.lt hot)
  unfold unpackItems
  refine wpAny_bind ?_
  · unfold notIterableAtAll
    refine wpAny_bind (wpAny_specialOf ht.typeIs slot_tuple_iter.lookup ?_)
    refine wpAny_pure ?_
    simp only [Bool.false_eq_true, if_false]
    refine wpAny_bind (wpAny_holding (iter_tuple ht ?_))
    refine wpAny_bind (wpAny_holding (draw_tuple hlt items.size 0 _ _ ⟨_, Heap.get?_push_size _ rfl, rfl, rfl⟩ (ht.push _) (by omega) fun h₁ hit₁ hs₁ => ?_))
    have hall : List.take items.size (List.drop 0 items.toList) = items.toList := by
      rw [List.drop_zero]; exact List.take_of_length_le (by simp)
    rw [hall]
    rw [if_neg (by simp)]
    have ht₁ : IsTup h₁ t items := (ht.push _).extBut hs₁.extBut hlt
    have hot₁ : HotAt A x1 h₁ := HotAt.keep hot fun o e => hs₁.extBut x1 o hlx (Heap.get?_push_of_some _ e)
    refine wpAny_bind (wpAny_holding (tup_end_hot (s := { s with heap := h₁ }) hot₁ hlx hit₁ ht₁ (by simp) fun h₂ he₂ => ?_))
    simp only [Option.isSome_none, Bool.false_eq_true, if_false]
    exact wpAny_pure (hQ h₂ fun b o hb e => he₂ b o hb (hs₁.extBut b o hb (Heap.get?_push_of_some _ e)))
theorem unpack_lst_hot {l x1 : Addr} {items : Array Value} {Q : List Value → Shared → Prop} (hot : HotAt A x1 s.heap) (hl : s.heap.IsList l items)
    (hQ : ∀ h', Heap.ExtBut s.heap.objs.size s.heap h' → Q items.toList { s with heap := h' }) : wpAny (model prog w) A (unpackItems (.ref l) items.size none) Q E s := by
  have hlt : l ≠ s.heap.objs.size := by obtain ⟨o, ho, _⟩ := hl; exact Nat.ne_of_lt (Heap.lt_size ho)
  have hlx : x1 ≠ s.heap.objs.size := Nat.ne_of_lt (HotAt.lt hot)
  unfold unpackItems
  refine wpAny_bind ?_
  · unfold notIterableAtAll
    refine wpAny_bind (wpAny_specialOf hl.typeIs slot_list_iter.lookup ?_)
    refine wpAny_pure ?_
    simp only [Bool.false_eq_true, if_false]
    refine wpAny_bind (wpAny_holding (wpAny_pyIter_list hl ?_))
    refine wpAny_bind (wpAny_holding (PySem.W.kun_draw hlt items.size 0 _ _ ⟨_, Heap.get?_push_size _ rfl, rfl, rfl⟩ (hl.push _) (by omega) fun h₁ hit₁ hs₁ => ?_))
    have hall : List.take items.size (List.drop 0 items.toList) = items.toList := by
      rw [List.drop_zero]; exact List.take_of_length_le (by simp)
    rw [hall]
    rw [if_neg (by simp)]
    have hl₁ : h₁.IsList l items := (hl.push _).extBut hs₁.extBut hlt
    have hot₁ : HotAt A x1 h₁ := HotAt.keep hot fun o e => hs₁.extBut x1 o hlx (Heap.get?_push_of_some _ e)
    refine wpAny_bind (wpAny_holding (list_end_hot (s := { s with heap := h₁ }) hot₁ hlx hit₁ hl₁ (by simp) fun h₂ he₂ => ?_))
    simp only [Option.isSome_none, Bool.false_eq_true, if_false]
    exact wpAny_pure (hQ h₂ fun b o hb e => he₂ b o hb (hs₁.extBut b o hb (Heap.get?_push_of_some _ e)))
end
section
variable {X : Cx} {pos : Pos}
theorem pg_tupH {es : List Expr} {k : Nat} {t : TGs} {n : Nat} (hc : HotC X) (h : PGs X es t)
    (hn : (assignEach es X.env).length = n) (hst : (assignEach es X.env).findIdx? (·.1) = none) : PG X (.Tuple es k pos) (gTup X.K n t) := by
  refine ⟨fun pins s σ H v u Q I r hw => ?_⟩
  obtain ⟨a, xs, e1, hq, hl, hw⟩ := hw
  subst e1
  cases r
  obtain ⟨its, rv, ht, hz⟩ := I.tuple hq
  obtain ⟨x1, hot⟩ := hc.at I
  have hsz : (assignEach es X.env).length = its.toArray.size := by simp [hn, ← hl, rv.length]
  rw [PyProof.Rows.assign_Tuple]
  refine wpAny_bind (wpAny_standAt ?_)
  unfold unpack
  rw [hsz, hst]
  refine wpAny_bind (wpAny_holding (unpack_tup_hot hot ht fun h' hx => ?_))
  have I1 : Inv X pins σ H { s with heap := h' } := I.kept (t' := s.toks) fun b o e => hx b o (Nat.ne_of_lt (Heap.lt_size e)) e
  exact h.run pins _ σ H xs _ Q I1 (by simpa using rv) hw
theorem pg_lstH {es : List Expr} {k : Nat} {t : TGs} {n : Nat} (hc : HotC X) (h : PGs X es t)
    (hn : (assignEach es X.env).length = n) (hst : (assignEach es X.env).findIdx? (·.1) = none) : PG X (.Tuple es k pos) (gLst X.K n t) := by
  refine ⟨fun pins s σ H v u Q I r hw => ?_⟩
  obtain ⟨a, xs, e1, hq, hl, hw⟩ := hw
  subst e1
  cases r
  obtain ⟨its, rv, pl, hz⟩ := I.list hq
  obtain ⟨x1, hot⟩ := hc.at I
  have hsz : (assignEach es X.env).length = its.toArray.size := by simp [hn, ← hl, rv.length]
  rw [PyProof.Rows.assign_Tuple]
  refine wpAny_bind (wpAny_standAt ?_)
  unfold unpack
  rw [hsz, hst]
  refine wpAny_bind (wpAny_holding (unpack_lst_hot hot pl.isList fun h' hx => ?_))
  have I1 : Inv X pins σ H { s with heap := h' } := I.kept (t' := s.toks) fun b o e => hx b o (Nat.ne_of_lt (Heap.lt_size e)) e
  exact h.run pins _ σ H xs _ Q I1 (by simpa using rv) hw
end
end IT
end
section
set_option Elab.async false
set_option linter.all false
set_option maxRecDepth 100000
set_option autoImplicit false
namespace IT
open PySem PySem.Spec PyProof.Rows L2 HotX L2H
/-! ### a list walked, a list comprehension, while an exception is handled -/
theorem turn_listH {P : Program} {w : World} {K : PySem.W.Frag} {tg : Expr} (a it : Addr) : TurnH P w K tg (Itl K a) [it] it (fun i h => h.IsListIter it a i) where
  mem := by simp
  obj := fun i h st b hb => by
    have e : b = it := by simpa using hb
    subst e
    obtain ⟨o, e, c, d⟩ := st
    exact ⟨o, e, fun v z => by rw [d] at z; cases z⟩
  keep := fun i h h' st k => st.at fun o e => k it (by simp) o e
  item := by
    intro X hP hw hK hc i pins s σ H E I hf st hg
    subst hP hw hK
    obtain ⟨xs, x, hq, hx⟩ := hg
    obtain ⟨its, rv, p, hz⟩ := I.list hq
    obtain ⟨u, hu, ru⟩ := rv.get hx
    obtain ⟨f0, f1, f2, f3, f4, f5⟩ := hf it (by simp)
    refine wpAny_pyNext_list_item st p.isList (x := u) (by simpa using hu) fun h' st' sb => ?_
    have I1 : Inv X pins σ H { s with heap := h' } := I.turned (t' := s.toks) (fun b o hb e => (sb.2 b hb).trans e) f0 f1 f3 f4 f5
    obtain ⟨o, e, c, d⟩ := id st'
    exact ⟨u, rfl, go_of (s := { s with heap := h' }) e c d (by decide) ⟨x, H, I1, ru, ⟨rfl, fun ys hy => by rw [I.list_inj hy hq]; exact hx⟩, st', fun b hb => (hf b hb).1⟩⟩
  done := by
    intro X hP hw hK hc i pins s σ H E I hf st hg
    subst hP hw hK
    obtain ⟨xs, hq, hx⟩ := hg
    obtain ⟨its, rv, p, hz⟩ := I.list hq
    obtain ⟨f0, f1, f2, f3, f4, f5⟩ := hf it (by simp)
    have hl := rv.length
    obtain ⟨q, ⟨hh, v1, d1, c1⟩, hp⟩ := hc
    have hget := (I.pin q (List.mem_append_left _ hp)).1
    have hne : q.1 ≠ it := f5 q (List.mem_append_left _ hp)
    exact list_end_hot ⟨hh, q.2, v1, hget, d1, c1⟩ hne st p.isList (by simp; omega) fun h' eb => ⟨rfl, I.turned (t' := s.toks) (fun b o hb e => eb b o hb e) f0 f1 f3 f4 f5⟩
  self := fun _ _ _ _ _ st h => wpAny_pyIter_listiter st h
section
variable {X : Cx} {tg : Expr}
theorem pi_listH {l : Expr} {tl : TE} (hl : PE X l tl) : PIH X tg l (iList X.K tl) := by
  refine ⟨fun pins s σ H R I h => ?_⟩
  refine thn (hl.run pins s σ H _ I h) fun v s1 ⟨x, H1, I1, r1, q1⟩ => ?_
  obtain ⟨a, e, ⟨xs, hq⟩, q⟩ := q1
  subst e
  cases r1
  obtain ⟨its, rv, p, hz⟩ := I1.list hq
  refine wpAny_pyIter_list p.isList ?_
  refine ⟨s1.heap.objs.size, [s1.heap.objs.size], _, _, H1, rfl, I1.kept (t' := s1.toks) fun b o e => Heap.get?_push_of_some _ e, turn_listH a _, ⟨_, Heap.get?_push_size _ rfl, rfl, rfl⟩, fun b hb => ?_, q⟩
  have e : b = s1.heap.objs.size := by simpa using hb
  subst e
  exact I1.fpOk (Nat.le_refl _) (I1.hok.fresh (Nat.le_refl _))
end
/-- the block's context: the exception stays pinned -/
abbrev blkH (X : Cx) (p : Addr × Obj) (s : Shared) (H : Hp) (scope : Scope) (cenv : PySem.Env) (fp : List Addr) : Cx := (X.blk s H scope cenv fp).tr [p] fun _ _ => False
section
variable {X : Cx} {p : Addr × Obj}
theorem pe_lcH {elt tg iter : Expr} {ifs : List Expr} {scope : Scope} {own : List (Str × Nat)} {pos : Pos} {wi : TI} {g : TG} {tt : TT} {te : TE} (hp : Hot1 X.A p) (hm : p ∈ X.pn) (hN : X.N.Nodup) (hi : PIH X tg iter wi) (ok : BlkOk X.N X.env.scope scope own)
    (hg : ∀ (s : Shared) (H : Hp) (C : Addr) (cl : List (Str × Addr)) (fp : List Addr), PG (blkH X p s H scope (compEnvC scope cl C X.env) fp) tg g) (ht : ∀ (s : Shared) (H : Hp) (C : Addr) (cl : List (Str × Addr)) (fp : List Addr), PTs (blkH X p s H scope (compEnvC scope cl C X.env) fp) ifs tt)
    (he : ∀ (s : Shared) (H : Hp) (C : Addr) (cl : List (Str × Addr)) (fp : List Addr), PE (blkH X p s H scope (compEnvC scope cl C X.env) fp) elt te) (hs : ∀ x, foldedSetIterable iter X.env x = pure x) :
    PE X (.ListComp elt [⟨tg, iter, ifs, 0⟩] scope pos) (tLc wi g tt te (own.map (·.2))) := by
  refine ⟨fun pins s σ H Q I h => ?_⟩
  rw [eval_ListComp]
  have hfree : ∀ y ∈ scope.names, y.2 = .free → ∃ c, X.env.cells.lookup y.1 = some c := fun y hy e => (ok.free y hy e).elim (fun k => I.ok.has _ (.inl k)) fun k => I.ok.has _ (.inr k)
  refine wpAny_comprehension_free (use := none) rfl hs (closure_ok hfree) ok.kind (fun y hy e => by rw [ok.uniq y hy, e])
    (thn (hi.run pins s σ H _ I h) fun xv s1 hx => thn hx fun itv s2 h2 => ?_)
  obtain ⟨it, fp, tn, J, H2, e, I2, T, st2, f2, q⟩ := h2
  subst e
  refine wpAny_newObj_type (newEnv_comp ?_) (by show 0 ≤ sizeLine; decide)
  generalize hD : s2.heap.objs.size = D
  obtain ⟨W, ⟨m0, w0⟩, turn⟩ := q D (I2.hok.fresh (Nat.le_of_eq hD))
  generalize hs3 : ({ s2 with heap := s2.heap.push { cls := .type "list", data := .seq ([] : List Value).toArray } } : Shared) = s3
  have I3 : Inv X pins σ (upd H2 D (.lst [])) s3 := by
    rw [← hs3]
    refine I2.laid (t' := s2.toks) (fun b o e => Heap.get?_push_of_some _ e) (Nat.le_of_eq hD) ⟨Nat.zero_le _, [], 0, .nil, ?_⟩
    rw [← hD]
    exact Heap.get?_push_size _ rfl
  have h3 : s3.heap = s2.heap.push { cls := .type "list", data := .seq ([] : List Value).toArray } := by rw [← hs3]
  have f3 : ∀ b ∈ fp, FpOk X pins (upd H2 D (.lst [])) b ∧ b < s3.heap.objs.size := fun b hb => by
    obtain ⟨o, e, _⟩ := T.obj _ _ st2 b hb
    have hlt := Heap.lt_size e
    refine ⟨⟨?_, (f2 b hb).2⟩, by rw [h3, Heap.size_push]; exact Nat.lt_succ_of_lt hlt⟩
    rw [upd_ne (by rw [← hD]; exact Nat.ne_of_lt hlt)]
    exact (f2 b hb).1
  have st3 : tn 0 s3.heap := T.keep _ _ _ st2 fun b _ o e => by rw [h3]; exact Heap.get?_push_of_some _ e
  have P3 := I3.pin p (List.mem_append_left _ hm)
  have nfr : p.1 ∉ frs X.stack := fun z => by
    rcases List.mem_cons.mp (I3.stkSub _ z) with e | e
    · exact P3.2.2.1 e
    · exact P3.2.2.2.1 e
  have I4 : Inv (blkH X p s3 (upd H2 D (.lst [])) scope (compEnvC scope (cellsFrom (s3.heap.objs.size + 1) scope.names (cloFrom X.env.cells scope.names [])) s3.heap.objs.size X.env) fp) [] (wipe σ (own.map (·.2))) (upd H2 D (.lst [])) { s3 with heap := pushCells (s3.heap.push { cls := .type "dict", data := .dict #[] }) scope.names } := by
    have B := (block_start I3 ok hN f3).pins_of (pins' := [p]) fun q hq => by
      have e : q = p := by simpa using hq
      subst e
      refine ⟨pushCells_keeps _ _ _ _ (Heap.get?_push_of_some _ P3.1), P3.2.1, Nat.ne_of_lt (Heap.lt_size P3.1), nfr, P3.2.2.2.2⟩
    exact B.toTry _
  have pg := hg s3 (upd H2 D (.lst [])) s3.heap.objs.size (cellsFrom (s3.heap.objs.size + 1) scope.names (cloFrom X.env.cells scope.names [])) fp
  have pt := ht s3 (upd H2 D (.lst [])) s3.heap.objs.size (cellsFrom (s3.heap.objs.size + 1) scope.names (cloFrom X.env.cells scope.names [])) fp
  have pe := he s3 (upd H2 D (.lst [])) s3.heap.objs.size (cellsFrom (s3.heap.objs.size + 1) scope.names (cloFrom X.env.cells scope.names [])) fp
  show codeAny _ _ (.compStart (.ListComp elt [⟨tg, iter, ifs, 0⟩] scope pos) 0 (.ref it) (.ref D) (compEnvC scope (cellsFrom (s3.heap.objs.size + 1) scope.names (cloFrom X.env.cells scope.names [])) s3.heap.objs.size X.env)) (compPost (model X.prog X.w) X.A X.xe none (EP X pins σ Q) (.ref D) s3.heap.objs.size) { s3 with heap := pushCells (s3.heap.push { cls := .type "dict", data := .dict #[] }) scope.names }
  have nfp : ∀ b ∈ fp, (upd H2 D (.lst [])) b = none := fun b hb => (f3 b hb).1.1
  generalize hce : compEnvC scope (cellsFrom (s3.heap.objs.size + 1) scope.names (cloFrom X.env.cells scope.names [])) s3.heap.objs.size X.env = ce at I4 pg pt pe ⊢
  have cL : ce.locals = s3.heap.objs.size := by subst hce; rfl
  generalize hH3 : upd H2 D (.lst []) = H3 at I3 I4 pg pt pe w0 nfp f3 P3
  generalize hs4 : ({ s3 with heap := pushCells (s3.heap.push { cls := .type "dict", data := .dict #[] }) scope.names } : Shared) = s4 at I4 ⊢
  have st4 : tn 0 s4.heap := T.keep _ _ _ st3 fun b _ o e => by rw [← hs4]; exact pushCells_keeps _ _ _ _ (Heap.get?_push_of_some _ e)
  have hot : HotC (blkH X p s3 H3 scope ce fp) := ⟨p, hp, List.mem_singleton.mpr rfl⟩
  have stat : ∀ {σ' : L2.St} {H' : Hp} {s' : Shared}, Inv (blkH X p s3 H3 scope ce fp) [] σ' H' s' → (∀ b ∈ fp, H' b = none) → ∀ b ∈ fp, FpOk (blkH X p s3 H3 scope ce fp) [] H' b := fun {σ' H' s'} I' hn b hb =>
    ⟨hn b hb, (I'.ok.exf b hb).1, I'.ok.exfs b hb, .inl hb, fun x c e => (I'.ok.exf b hb).2 x c e, fun q hq => by
      have e : q = p := by simpa using hq
      subst e
      exact (f3 b hb).1.2.2.2.2.2 q (List.mem_append_left _ hm)⟩
  have loop : codeAny (model X.prog X.w) X.A (.compLoop (.ListComp elt [⟨tg, iter, ifs, 0⟩] scope pos) 0 (.ref it) (.ref D) ce) (compPost (model X.prog X.w) X.A X.xe none (EP X pins σ Q) (.ref D) s3.heap.objs.size) s4 := by
    refine compLoop_any (fun n s' => ∃ i H', Inv (blkH X p s3 H3 scope ce fp) [] (wipe σ (own.map (·.2))) H' s' ∧ tn i s'.heap ∧ (∀ b ∈ fp, H' b = none) ∧ W i n H') ?_ m0 ⟨0, H3, I4, st4, nfp, w0⟩
    rintro n s5 ⟨i, H5, I5, st5, n5, w5⟩
    rcases turn i n H5 w5 with ⟨stop, qq⟩ | ⟨go, Nx, hNx, step⟩
    · refine thnF (T.done (blkH X p s3 H3 scope ce fp) rfl rfl rfl hot i [] s5 _ H5 (fun _ _ => False) I5 (stat I5 n5) st5 stop) fun r s6 ⟨hr, I6⟩ => ?_
      subst hr
      have I7 : Inv X pins σ H5 s6 := I3.call' (ch := fp) I6.os I6.base I6.hok I6.bare fun b hb => ⟨(f3 b hb).1.2.2.2.1, (f3 b hb).1.2.1, (f3 b hb).1.2.2.2.2.1, (f3 b hb).1.2.2.2.2.2⟩
      have nC : H5 s3.heap.objs.size = none := by
        have z : H5 ce.locals = none := I6.free
        rw [cL] at z
        exact z
      obtain ⟨m, hn, _⟩ := I6.loc
      have hn : s6.heap.Ns ce.locals m := hn
      rw [cL] at hn
      refine ⟨m, hn, fun h'' sb => ?_⟩
      obtain ⟨f0, f1, f2, f3, f4, f5⟩ := I3.fpOk (Nat.le_refl _) nC
      exact ⟨.ref D, H5, I7.turned (t' := s6.toks) (fun b o hb e => (sb.2 b hb).trans e) f0 f1 f3 f4 f5, rfl, qq⟩
    · refine thnF (T.item (blkH X p s3 H3 scope ce fp) rfl rfl rfl hot i [] s5 _ H5 (fun _ _ => False) I5 (stat I5 n5) st5 go) fun r s6 ⟨u, hr, h6⟩ => ?_
      subst hr
      refine thnF h6 fun _ s7 ⟨x, H7, I7, r7, y7, st7, n7⟩ => ?_
      have I7' := I7.pinned (stat I7 n7) (T.obj _ _ st7)
      refine thnF (pg.run _ s7 _ H7 x u _ I7' r7 (step x H7 y7)) fun _ s8 ⟨σ8, H8, I8, hw8, q8⟩ => ?_
      refine thnF (pt.run _ s8 σ8 H8 _ I8 q8) fun b s9 ⟨H9, I9, q9⟩ => ?_
      have fin : ∀ {s' : Shared} {H' : Hp}, Inv (blkH X p s3 H3 scope ce fp) ([] ++ pinsAt fp s7.heap) σ8 H' s' → Nx H' → ∃ m, m < n ∧ ∃ i H', Inv (blkH X p s3 H3 scope ce fp) [] (wipe σ (own.map (·.2))) H' s' ∧ tn i s'.heap ∧ (∀ b ∈ fp, H' b = none) ∧ W i m H' := fun {s' H'} I' nx => by
        obtain ⟨m', hm', w'⟩ := hNx H' nx
        have pin' : ∀ b ∈ fp, ∀ o, s7.heap.get? b = some o → s'.heap.get? b = some o ∧ H' b = none := fun b hb o e =>
          let z := I'.pin (b, o) (List.mem_append_right _ (List.mem_append_right _ (mem_pinsAt hb e)))
          ⟨z.1, z.2.1⟩
        have hl : (wipe σ (own.map (·.2))).length = σ8.length := by rw [← hw8, wipe_length]
        refine ⟨m', hm', i + 1, H', (I'.unpinned (pins := [])).weak hl (fun j v e => ?_), T.keep _ _ _ st7 fun b hb o e => (pin' b hb o e).1, fun b hb => ?_, w'⟩
        · rw [← hw8] at e
          exact (wipe_some e).1
        · obtain ⟨o, e, _⟩ := T.obj _ _ st7 b hb
          exact (pin' b hb o e).2
      cases b with
      | false =>
        simp only [Bool.false_eq_true, if_false] at q9 ⊢
        exact fin I9 q9
      | true =>
        simp only [if_true] at q9 ⊢
        refine thnF (pe.run _ s9 σ8 H9 _ I9 q9) fun z s10 ⟨yv, H10, I10, r10, acc, hD10, hz10, nx⟩ => ?_
        exact app_ok (X := blkH X p s3 H3 scope ce fp) I10 hD10 hz10 r10 fun s11 I11 => fin I11 nx
  exact codeAny_compStart_list loop (T.self X.A 0 _ _ _ st4 loop)
end
end IT
end
section
set_option Elab.async false
set_option linter.all false
set_option maxRecDepth 100000
set_option autoImplicit false
namespace IT
open PySem PySem.Spec PyProof.Rows L2
open LamX (Tabs TabS CodeO lamSB)
/-! ### the text, erased to the core -/
inductive GV where | fn (i : Nat) | cls (i : Nat) | con (d : D) | free | gcd
structure EA where
  N : List Str
  sc : Scope
  st : Scope
  G : Str → Option GV
  /-- the name of the exception that a suite handles; is a lambda's making known; where lists are written -/
  hx : Option Str := none
  hu : Bool := false
  lam : Bool := false
  mu : Pos → Bool := fun _ => false
def visB (sc : Scope) (x : Str) : Bool := match sc.names.lookup x with
  | some .local => true
  | some .cell => true
  | some .free => true
  | _ => false
def gloB (sc : Scope) (x : Str) : Bool := match sc.names.lookup x with
  | some .globalImplicit => true
  | _ => false
def locB (sc : Scope) (x : Str) : Bool := match sc.names.lookup x with
  | some .local => true
  | some .cell => true
  | _ => false
def dbg (x : Str) : Bool := decide (x = ("__debug__" : Str)) || decide (x = ("__classdict__" : Str)) || decide (x = ("__name__" : Str))
def idx : List Str → Str → Option Nat
  | [], _ => none
  | y :: r, x => if y = x then some 0 else (idx r x).map (· + 1)
theorem idx_ok : ∀ {N : List Str} {x : Str} {i : Nat}, idx N x = some i → N[i]? = some x
  | [], _, _, h => by cases h
  | y :: r, x, i, h => by
    unfold idx at h
    split at h
    · rename_i e
      cases h
      rw [e]; rfl
    · simp only [Option.map_eq_some_iff] at h
      obtain ⟨j, e, rfl⟩ := h
      simpa using idx_ok e
def erName (A : EA) (x : Str) : Option E := if dbg x = true then none else
  if visB A.sc x = true then (if A.hx = some x then none else (idx A.N x).map E.v)
  else if gloB A.sc x = true then (match A.G x with
    | some (.fn i) => some (.g i)
    | some (.cls i) => some (.g i)
    | some (.con d) => some (.k d)
    | _ => none) else none
def erBin : Operator → Option BO
  | .Add => some .add
  | .Sub => some .sub
  | .Mult => some .mul
  | .FloorDiv => some .fdiv
  | .Mod => some .mod
  | .Pow => some .pow
  | _ => none
/-- what makes a list that is written -/
def muB (m : Bool) (o : BO) : BO := if m = true then (match o with
  | .add => .cat
  | .mul => .rep
  | o => o) else o
def muI (m : Bool) (o : BI) : BI := if m = true then (match o with
  | .list => .nlist
  | o => o) else o
def erCmp : CmpOp → CO
  | .Eq => .eq
  | .NotEq => .ne
  | .Lt => .lt
  | .LtE => .le
  | .Gt => .gt
  | .GtE => .ge
  | .Is => .is
  | .IsNot => .isnot
  | .In => .in_
  | .NotIn => .notin
def biOf (x : Str) : Option BI :=
  if x = ("len" : Str) then some .len else if x = ("abs" : Str) then some .abs else if x = ("int" : Str) then some .int else if x = ("tuple" : Str) then some .tuple else
  if x = ("list" : Str) then some .list else if x = ("all" : Str) then some .all else if x = ("any" : Str) then some .any else if x = ("sum" : Str) then some .sum else if x = ("str" : Str) then some .str else if x = ("sorted" : Str) then some .sorted else none
def tyOf (x : Str) : Option String :=
  if x = ("int" : Str) then some "int" else if x = ("bool" : Str) then some "bool" else if x = ("tuple" : Str) then some "tuple" else if x = ("list" : Str) then some "list" else if x = ("str" : Str) then some "str" else none
mutual
def erT (A : EA) : Nat → Expr → Option T
  | 0, _ => none
  | n + 1, .Name x _ => if locB A.st x = true ∧ A.hx ≠ some x then (idx A.N x).map T.n else none
  | n + 1, .Tuple es _ _ => (erTs A n es).map T.t
  | _ + 1, _ => none
def erTs (A : EA) : Nat → List Expr → Option (List T)
  | 0, _ => none
  | _ + 1, [] => some []
  | n + 1, e :: es => match erT A n e, erTs A n es with
    | some t, some ts => some (t :: ts)
    | _, _ => none
end
mutual
def T.slots : T → List Nat
  | .n i => [i]
  | .t ts => T.slotss ts
def T.slotss : List T → List Nat
  | [] => []
  | g :: ts => T.slots g ++ T.slotss ts
end
/-- a list's items, one by one -/
def erL (f : Expr → Option E) : List Expr → Option (List E)
  | [] => some []
  | e :: r => match f e, erL f r with
    | some c, some cs => some (c :: cs)
    | _, _ => none
def erO (f : Expr → Option E) : Option Expr → Option (Option E)
  | none => some none
  | some e => (f e).map some
def noCall0 : Expr → Bool
  | .Call (.Name _ _) [] [] _ => false
  | _ => true
def isTup : Expr → Bool
  | .Tuple _ _ _ => true
  | _ => false
def ownOf (N : List Str) : List (Str × NameKind) → List (Str × Nat)
  | [] => []
  | (x, k) :: r => (match k with
    | .local => (match idx N x with
      | some i => (x, i) :: ownOf N r
      | none => ownOf N r)
    | .cell => (match idx N x with
      | some i => (x, i) :: ownOf N r
      | none => ownOf N r)
    | _ => ownOf N r)
def EA.blk (A : EA) (scope : Scope) : EA := { A with sc := relS scope A.sc, st := scope, hu := false }
def EA.hs (A : EA) : Option Nat := A.hx.bind (idx A.N)
def EA.lamA (A : EA) (scope : Scope) : EA := { A with sc := scope, st := { scope with names := [] }, hx := none, hu := false, lam := false }
def params0 : Arguments → Bool
  | ⟨[], [], none, [], [], none, []⟩ => true
  | _ => false
def lamArg : List Expr → Option (Arguments × Expr × Scope)
  | [.Lambda params body scope _] => some (params, body, scope)
  | _ => none
def hxArg (A : EA) : Expr → Bool
  | .Name y _ => decide (A.hx = some y) && visB A.sc y && !dbg y && A.hu
  | _ => false
/-- a call of a global by its name -/
def erCall (A : EA) (f : Expr → Option E) (m : Bool) (x : Str) (es : List Expr) : Option E := match A.G x with
  | some (.fn i) => (erL f es).map (E.call i)
  | some .gcd => (match es with
    | [a, b] => (match f a, f b with
      | some a, some b => some (.bi .gcd [a, b])
      | _, _ => none)
    | _ => none)
  | some .free => if x = ("isinstance" : Str) then (match es with
      | [a, .Name t _] => if gloB A.sc t = true ∧ dbg t = false then (if hxArg A a = true then (match A.G t with
        | some (.cls k) => some (.exi k)
        | _ => none) else match A.G t, tyOf t with
        | some .free, some u => (f a).map fun c => E.isi c u
        | _, _ => none) else none
      | _ => none)
    else (match es, (biOf x).map (muI m) with
      | [a], some b => (f a).map fun c => E.bi b [c]
      | _, _ => none)
  | _ => none
def guardE : Option E → Option E
  | some c => if isE c = true then some c else none
  | none => none
/-- what is walked -/
def erI (A : EA) (f : Expr → Option E) (tg : Expr) (e : Expr) : Option E := match e with
  | .Call (.Name x p) es [] pos =>
    if x = ("range" : Str) ∨ x = ("zip" : Str) ∨ x = ("enumerate" : Str) then
      (if gloB A.sc x = true then (match A.G x with
        | some .free => if x = ("range" : Str) then (match es with
            | [b] => (f b).map (E.rng none)
            | [a, b] => (match f a, f b with
              | some a, some b => some (.rng (some a) b)
              | _, _ => none)
            | _ => none)
          else if x = ("zip" : Str) then (match es with
            | [a, b] => if isTup tg = true then (match f a, f b with
              | some a, some b => some (.zip a b)
              | _, _ => none) else none
            | _ => none)
          else (match es with
            | [a] => if isTup tg = true then (f a).map E.enum else none
            | _ => none)
        | _ => none) else none)
    else guardE (f (.Call (.Name x p) es [] pos))
  | .Set _ _ _ => none
  | e => guardE (f e)
def er (A : EA) : Nat → Expr → Option E
  | 0, _ => none
  | n + 1, .Constant c _ _ => (match c with
    | .none => some (.k .non)
    | .bool b => some (.k (.bl b))
    | .int i => some (.k (.int i))
    | .str x => some (.k (.str x))
    | _ => none)
  | n + 1, .Name x _ => erName A x
  | n + 1, .BinOp a op b pos => (match (erBin op).map (muB (A.mu pos)), er A n a, er A n b with
    | some o, some x, some y => some (.bin o x y)
    | _, _, _ => none)
  | n + 1, .UnaryOp op a _ => (match op with
    | .USub => (er A n a).map E.neg
    | .Not => (er A n a).map E.nt
    | _ => none)
  | n + 1, .BoolOp op es pos => (match es with
    | [a] => er A n a
    | a :: b :: r => (match er A n a, er A n (.BoolOp op (b :: r) pos) with
      | some x, some y => (match op with
        | .And => some (.and x y)
        | .Or => some (.or x y))
      | _, _ => none)
    | [] => none)
  | n + 1, .Compare a ops es _ => (match ops, es with
    | [op], [b] => if behindInMarks op b = true then none else (match er A n a, er A n b with
      | some x, some y => some (.cmp (erCmp op) x y)
      | _, _ => none)
    | [op, op'], [b, d] => if behindInMarks op b = true ∨ behindInMarks op' d = true then none else (match er A n a, er A n b, er A n d with
      | some x, some y, some z => some (.chn (erCmp op) (erCmp op') x y z)
      | _, _, _ => none)
    | _, _ => none)
  | n + 1, .IfExp t a b _ => (match er A n t, er A n a, er A n b with
    | some x, some y, some z => some (.ite x y z)
    | _, _, _ => none)
  | n + 1, .Tuple es _ _ => (erL (er A n) es).map E.tup
  | n + 1, .List es pos => (erL (er A n) es).map (if A.mu pos = true then E.nlst else E.lst)
  | n + 1, .Subscript a i _ => (match i with
    | .Slice none none (some (.UnaryOp .USub (.Constant (.int 1) _ _) _)) _ => (er A n a).map E.rev
    | .Slice lo hi none _ => (match er A n a, erO (er A n) lo, erO (er A n) hi with
      | some x, some l, some h => some (.sl x l h)
      | _, _, _ => none)
    | i => (match er A n a, er A n i with
      | some x, some y => some (.ix x y)
      | _, _ => none))
  | n + 1, .Call f es kws pos => (match f, kws with
    | .Name x _, [] => if dbg x = true then none else
      (match lamArg es with
      | some (params, body, scope) => if A.lam = true ∧ A.hx = none ∧ gloB A.sc x = true ∧ lamSB A.sc scope = true ∧ params0 params = true then (match A.G x with
        | some (.fn i) => (er (A.lamA scope) n body).map (E.lam i)
        | _ => none) else none
      | none => if gloB A.sc x = true then erCall A (er A n) (A.mu pos) x es
        else if visB A.sc x = true then (if A.hx = some x then none else match idx A.N x, erL (er A n) es with
          | some i, some cs => some (.callv i cs)
          | _, _ => none)
        else none)
    | .Attribute o m apos, [] => if noCall0 o = true ∧ (apos.endLine == pos.line) = true then (match es with
      | [e] => if m = ("append" : Str) then (match er A n o, er A n e with
          | some x, some y => some (.app x y)
          | _, _ => none) else if m = ("join" : Str) then (match er A n o, er A n e with
          | some x, some y => some (.join x y)
          | _, _ => none) else none
      | _ => none) else none
    | _, _ => none)
  | n + 1, .ListComp elt gs scope pos => (match gs with
    | [⟨tg, iter, ifs, 0⟩] => if blkC A.N A.sc scope (ownOf A.N scope.names) = true ∧ (ownOf A.N scope.names).all (fun q => decide (some q.2 ≠ A.hs)) = true then (match erT (A.blk scope) 8 tg, erI A (er A n) tg iter, er (A.blk scope) n elt with
      | some t, some it, some c => if (T.slots t).all ((ownOf A.N scope.names).map (·.2)).contains = true then (match ifs with
        | [] => some (.lc (A.mu pos) c t it none ((ownOf A.N scope.names).map (·.2)))
        | [q] => (match er (A.blk scope) n q with
          | some q => some (.lc (A.mu pos) c t it (some q) ((ownOf A.N scope.names).map (·.2)))
          | none => none)
        | _ => none) else none
      | _, _, _ => none) else none
    | _ => none)
  | _ + 1, _ => none

end IT
end
section
set_option Elab.async false
set_option linter.all false
set_option maxRecDepth 100000
set_option autoImplicit false
namespace IT
open PySem PySem.Spec PyProof.Rows L2
open LamX (Tabs TabS CodeO)
/-! ### the text's side conditions, of what erases -/
theorem er_star {A : EA} : ∀ {n : Nat} {e : Expr} {c : E}, er A n e = some c → ∀ (es : List Expr) (env : PySem.Env), starEach (e :: es) env = (false, eval e env) :: starEach es env
  | 0, _, _, h => by cases h
  | n + 1, e, c, h => fun es env => by
    cases e <;> first | rfl | (unfold er at h; cases h)
theorem er_plain {A : EA} : ∀ {n : Nat} {e : Expr} {c : E}, er A n e = some c → PlainIx e
  | 0, _, _, h => by cases h
  | n + 1, e, c, h => fun o i => by
    cases e <;> first | rfl | (unfold er at h; cases h)
theorem attr_base {o : Expr} (h : noCall0 o = true) (m : Str) (env : PySem.Env) (x : Sem Value) : attributeBase o m env x = x := by
  unfold attributeBase
  split
  · cases h
  · rfl
theorem dbg_ok {x : Str} (h : ¬ dbg x = true) : (x == ("__debug__" : Str)) = false ∧ (x == ("__classdict__" : Str)) = false ∧ x ≠ "__name__" := by
  simp only [dbg, Bool.or_eq_true, decide_eq_true_eq, not_or] at h
  exact ⟨beq_eq_false_iff_ne.mpr h.1.1, beq_eq_false_iff_ne.mpr h.1.2, h.2⟩
theorem visB_ok {sc : Scope} {x : Str} (h : visB sc x = true) : Vis sc x := by
  unfold visB at h
  split at h <;> first | cases h | skip
  · exact .inl (by assumption)
  · exact .inr (.inl (by assumption))
  · exact .inr (.inr (by assumption))
theorem gloB_ok {sc : Scope} {x : Str} (h : gloB sc x = true) : sc.names.lookup x = some .globalImplicit := by
  unfold gloB at h
  split at h
  · assumption
  · cases h
/-- what a global is -/
def GOk (C : Cfg) (K : PySem.W.Frag) (mg : Str → Option Value) (x : Str) : GV → Prop
  | .fn i => mg x = some (.ref (C.ga i)) ∧ PySem.W.keepIn K (.ref (C.ga i)) = true
  | .cls i => mg x = some (.ref (C.ga i))
  | .con d => ∃ u v, mg x = some u ∧ RelV v u ∧ ∀ J av μ H, Rep { C with J := J, av := av } μ H v d
  | .free => mg x = none
  | .gcd => mg x = some (.builtin "math.gcd")
/-- a context in which erased text runs -/
structure Ctx (C : Cfg) (A : EA) (cx : Ct) (X : Cx) : Prop where
  jj : ∀ i v, C.J = some (i, v) → ∃ nm, A.hx = some nm ∧ A.N[i]? = some nm
  hK : X.K = C.K
  hN : X.N = A.N
  nd : A.N.Nodup
  hs : X.env.scope = A.sc
  st : ∀ x, locB A.st x = true → Loc X.env.scope x ∧ (X.fn x = true ∨ X.env.scope.names.lookup x = some .local)
  gl : ∀ x g, A.G x = some g → GOk C X.K X.mg x g
  un : X.A.units + 65 < cLine
  cal : cx.h.isNone = true → X.calm = true
  ht : cx.h.isNone = false → ∃ p : Addr × Obj, L2H.Hot1 X.A p ∧ p ∈ X.pn
section
variable {C : Cfg} {Ex : XK} {A : EA} {cx : Ct} {X : Cx}
theorem Ctx.gl' (k : Ctx C A cx X) {x : Str} (h : gloB A.sc x = true) : Gl X x := by
  have := gloB_ok h
  rw [← k.hs] at this
  exact this
/-- names -/
theorem s_name (k : Ctx C A cx X) {x : Str} {pos : Pos} {c : IT.E} (h : erName A x = some c) {f : Env → Sto → R D} (hf : ∀ δ S, f δ S = match c with
    | .v i => (match δ[i]? with
      | some (some d) => .ok d S
      | _ => .bad)
    | .k d => .ok d S
    | .g i => .ok (.glo i) S
    | _ => .bad) : PE X (.Name x pos) (tE C Ex f) := by
  unfold erName at h
  split at h
  · cases h
  · rename_i hd
    obtain ⟨d1, d2, d3⟩ := dbg_ok hd
    split at h
    · rename_i hv
      split at h
      · cases h
      · simp only [Option.map_eq_some_iff] at h
        obtain ⟨i, hi, rfl⟩ := h
        have e := idx_ok hi
        rw [← k.hN] at e
        have v := visB_ok hv
        rw [← k.hs] at v
        refine PE.imp (pe_var e v d1 d2) fun σ H Q ⟨μ, δ, S, st, p⟩ => ?_
        rw [hf] at p
        dsimp only at p
        cases q : δ[i]? with
        | none => rw [q] at p; exact p.elim
        | some o =>
          cases o with
          | none => rw [q] at p; exact p.elim
          | some d =>
            rw [q] at p
            obtain ⟨v, hv, r⟩ := st.env.at_ i d q
            exact ⟨v, hv, p.here r st.sto⟩
    · split at h
      · rename_i hg
        have g := k.gl' hg
        cases q : A.G x with
        | none => rw [q] at h; cases h
        | some gv =>
          have gk := k.gl x gv q
          rw [q] at h
          cases gv with
          | fn i =>
            cases h
            exact PE.imp (pe_glob g gk.1 (v := .ref (C.ga i)) rfl d1) fun σ H Q ⟨μ, δ, S, st, p⟩ => by
              rw [hf] at p
              exact p.here (.glo i) st.sto
          | cls i =>
            cases h
            exact PE.imp (pe_glob g gk (v := .ref (C.ga i)) rfl d1) fun σ H Q ⟨μ, δ, S, st, p⟩ => by
              rw [hf] at p
              exact p.here (.glo i) st.sto
          | con d =>
            cases h
            obtain ⟨u, v, h1, h2, h3⟩ := gk
            exact PE.imp (pe_glob g h1 h2 d1) fun σ H Q ⟨μ, δ, S, st, p⟩ => by
              rw [hf] at p
              exact p.here (h3 C.J C.av μ H) st.sto
          | free => cases h
          | gcd => cases h
      · cases h
/-- a written value -/
theorem s_const {c : Const} {d : D} {n : Nat} {pos : Pos} (h : (match c with
    | .none => some (IT.E.k .non)
    | .bool b => some (.k (.bl b))
    | .int i => some (.k (.int i))
    | .str x => some (.k (.str x))
    | _ => none) = some (IT.E.k d)) : PE X (.Constant c n pos) (tE C Ex fun _ S => .ok d S) := by
  cases c <;> first | cases h | skip
  · exact PE.imp pe_non fun σ H Q ⟨μ, δ, S, st, p⟩ => p.here .non st.sto
  · exact PE.imp pe_bl fun σ H Q ⟨μ, δ, S, st, p⟩ => p.here (.bl _) st.sto
  · exact PE.imp pe_int fun σ H Q ⟨μ, δ, S, st, p⟩ => p.here (.int _) st.sto
  · exact PE.imp pe_str fun σ H Q ⟨μ, δ, S, st, p⟩ => p.here (.str _) st.sto
variable {a b e o : Expr} {f g : Env → Sto → R D} {pos : Pos}
/-- two expressions, then an operator -/
theorem two_of {r : D → D → Sto → R D} {σ : L2.St} {H : Hp} {Q : VK} (h : tE C Ex (fun δ S => (f δ S).bind fun x S1 => (g δ S1).bind fun y S2 => r x y S2) σ H Q) : tOp (r2 C Ex r) (tE C Ex f) (tE C Ex g) σ H Q := by
  obtain ⟨μ, δ, S, st, p⟩ := h
  refine ⟨μ, δ, S, st, p.bind.imp fun x H1 ⟨μ1, S1, d1, e1, r1, s1, p1⟩ => ?_⟩
  refine ⟨μ1, δ, S1, st.ext e1 s1, p1.bind.imp fun y H2 ⟨μ2, S2, d2, e2, r2, s2, p2⟩ => ?_⟩
  exact ⟨μ2, S2, d1, d2, r1.ext e2, r2, s2, e2.tabs (e1.tabs st.tab), p2⟩
theorem s_bin {bo : BO} {op : Operator} {mu : Bool} (k : Ctx C A cx X) (ho : (erBin op).map (muB mu) = some bo) (ha : PE X a (tE C Ex f)) (hb : PE X b (tE C Ex g)) : PE X (.BinOp a op b pos) (tE C Ex fun δ S => (f δ S).bind fun x S1 => (g δ S1).bind fun y S2 => binop bo x y S2) := by
  have eo : op = bop bo := by cases mu <;> cases op <;> cases ho <;> rfl
  subst eo
  exact PE.imp (pe_op (binop_ok (E := Ex) k.hK bo) ha hb) fun σ H Q h => two_of h
theorem cop_er (op : CmpOp) : cop (erCmp op) = op := by cases op <;> rfl
theorem s_cmp {op : CmpOp} (k : Ctx C A cx X) (hm : behindInMarks op b = false) (ha : PE X a (tE C Ex f)) (hb : PE X b (tE C Ex g)) : PE X (.Compare a [op] [b] pos) (tE C Ex fun δ S => (f δ S).bind fun x S1 => (g δ S1).bind fun y S2 => cmpR (erCmp op) x y S2) := by
  have ok := cmpop_ok (X := X) (C := C) (E := Ex) k.hK (by have := k.un; omega) (erCmp op)
  rw [cop_er] at ok
  exact PE.imp (pe_cmpR ok ha hb hm) fun σ H Q h => two_of h
theorem R.bind_assoc {α β γ : Type} (r : R α) (f : α → Sto → R β) (g : β → Sto → R γ) : (r.bind f).bind g = r.bind fun a S => (f a S).bind g := by cases r <;> rfl
theorem s_cmpT {op : CmpOp} (k : Ctx C A cx X) (hm : behindInMarks op b = false) (ha : PE X a (tE C Ex f)) (hb : PE X b (tE C Ex g)) : PT X (.Compare a [op] [b] pos) (tB' C Ex fun δ S => ((f δ S).bind fun x S1 => (g δ S1).bind fun y S2 => cmpR (erCmp op) x y S2).bind fun d S3 => tst S3 d) := by
  have ok := cmpop_ok (X := X) (C := C) (E := Ex) k.hK (by have := k.un; omega) (erCmp op)
  rw [cop_er] at ok
  refine PT.imp (pt_cmpR ok ha hb hm) fun σ H Q ⟨μ, δ, S, st, p⟩ => ?_
  try dsimp only at p
  rw [R.bind_assoc] at p
  refine ⟨μ, δ, S, st, p.bind.imp fun x H1 ⟨μ1, S1, d1, e1, r1, s1, p1⟩ => ?_⟩
  try dsimp only at p1
  rw [R.bind_assoc] at p1
  refine ⟨μ1, δ, S1, st.ext e1 s1, p1.bind.imp fun y H2 ⟨μ2, S2, d2, e2, r2, s2, p2⟩ => ?_⟩
  refine ⟨μ2, S2, d1, d2, r1.ext e2, r2, s2, e2.tabs (e1.tabs st.tab), ?_⟩
  unfold cmpR at p2 ⊢
  cases q : cmpop (erCmp op) d1 d2 S2 with
  | none => rw [q] at p2; exact p2.elim
  | some t =>
    rw [q] at p2
    intro v H' μ' e r s
    cases r
    exact ⟨t, rfl, p2 t H' μ' e rfl s⟩
/-- a value's truth -/
theorem tst_ok {μ : List Addr} {H : Hp} {S : Sto} {v : V} {d : D} {Q : Bool → Hp → Prop} (hK : X.K = C.K) (st : StoR C μ H S) (r : Rep C μ H v d) (p : Pst C Ex μ H (tst S d) (fun _ _ b a => b = a) Q) : ∃ k, TruV X.K v H k ∧ Q k H := by
  unfold tst at p
  cases q : truth S d with
  | none => rw [q] at p; exact p.elim
  | some t =>
    rw [q] at p
    exact ⟨t, by rw [hK]; exact truth_ok st r q, p.here rfl st⟩
theorem s_truth (k : Ctx C A cx X) (he : ∀ whole, isTrue a X.env whole = (do let v ← whole; standAt a.pos; holding [v] (truthy v))) (ha : PE X a (tE C Ex f)) : PT X a (tB' C Ex fun δ S => (f δ S).bind fun d S1 => tst S1 d) :=
  PT.imp (pt_truth ha he) fun σ H Q ⟨μ, δ, S, st, p⟩ => ⟨μ, δ, S, st, p.bind.imp fun x H1 ⟨μ1, S1, d1, e1, r1, s1, p1⟩ => tst_ok k.hK s1 r1 p1⟩
theorem s_not (k : Ctx C A cx X) (ha : PE X a (tE C Ex f)) : PE X (.UnaryOp .Not a pos) (tE C Ex fun δ S => (f δ S).bind fun x S1 => (tst S1 x).bind fun b S2 => .ok (.bl (!b)) S2) := by
  refine PE.imp (pe_notT ha) fun σ H Q ⟨μ, δ, S, st, p⟩ => ⟨μ, δ, S, st, p.bind.imp fun x H1 ⟨μ1, S1, d1, e1, r1, s1, p1⟩ => ?_⟩
  unfold tst at p1
  cases q : truth S1 d1 with
  | none => rw [q] at p1; exact p1.elim
  | some t =>
    rw [q] at p1
    exact ⟨t, by rw [k.hK]; exact truth_ok s1 r1 q, p1.here (.bl _) s1⟩
theorem s_neg (ha : PE X a (tE C Ex f)) : PE X (.UnaryOp .USub a pos) (tE C Ex fun δ S => (f δ S).bind fun x S1 => match x with
      | .int i => .ok (.int (-i)) S1
      | _ => .bad) := by
  refine PE.imp (pe_un un_neg ha) fun σ H Q ⟨μ, δ, S, st, p⟩ => ⟨μ, δ, S, st, p.bind.imp fun x H1 ⟨μ1, S1, d1, e1, r1, s1, p1⟩ => ?_⟩
  cases r1 <;> first | exact p1.elim | skip
  exact ⟨_, rfl, p1.here (.int _) s1⟩
variable {rest : List Expr}
theorem s_and (k : Ctx C A cx X) (ha : PE X a (tE C Ex f)) (hb : PE X (.BoolOp .And (b :: rest) pos) (tE C Ex g)) : PE X (.BoolOp .And (a :: b :: rest) pos) (tE C Ex fun δ S => (f δ S).bind fun x S1 => (tst S1 x).bind fun k S2 => if k = true then g δ S2 else .ok x S2) := by
  refine PE.imp (pe_andT ha hb) fun σ H Q ⟨μ, δ, S, st, p⟩ => ⟨μ, δ, S, st, p.bind.imp fun x H1 ⟨μ1, S1, d1, e1, r1, s1, p1⟩ => ?_⟩
  unfold tst at p1
  cases q : truth S1 d1 with
  | none => rw [q] at p1; exact p1.elim
  | some t =>
    rw [q] at p1
    refine ⟨t, by rw [k.hK]; exact truth_ok s1 r1 q, ?_⟩
    cases t with
    | true => exact ⟨μ1, δ, S1, st.ext e1 s1, p1⟩
    | false => exact p1.here r1 s1
theorem s_or (k : Ctx C A cx X) (ha : PE X a (tE C Ex f)) (hb : PE X (.BoolOp .Or (b :: rest) pos) (tE C Ex g)) : PE X (.BoolOp .Or (a :: b :: rest) pos) (tE C Ex fun δ S => (f δ S).bind fun x S1 => (tst S1 x).bind fun k S2 => if k = true then .ok x S2 else g δ S2) := by
  refine PE.imp (pe_orT ha hb) fun σ H Q ⟨μ, δ, S, st, p⟩ => ⟨μ, δ, S, st, p.bind.imp fun x H1 ⟨μ1, S1, d1, e1, r1, s1, p1⟩ => ?_⟩
  unfold tst at p1
  cases q : truth S1 d1 with
  | none => rw [q] at p1; exact p1.elim
  | some t =>
    rw [q] at p1
    refine ⟨t, by rw [k.hK]; exact truth_ok s1 r1 q, ?_⟩
    cases t with
    | true => exact p1.here r1 s1
    | false => exact ⟨μ1, δ, S1, st.ext e1 s1, p1⟩
variable {t u : Env → Sto → R Bool}
theorem s_andT (ha : PT X a (tB' C Ex t)) (hb : PW X (.BoolOp .And (b :: rest) pos) (tB' C Ex u)) : PW X (.BoolOp .And (a :: b :: rest) pos) (tB' C Ex fun δ S => (t δ S).bind fun c S1 => if c = true then u δ S1 else .ok false S1) := by
  refine PW.imp (pw_and ha hb) fun σ H Q ⟨μ, δ, S, st, p⟩ => ⟨μ, δ, S, st, p.bind.imp fun x H1 ⟨μ1, S1, d1, e1, r1, s1, p1⟩ => ?_⟩
  subst r1
  cases x with
  | true => exact ⟨μ1, δ, S1, st.ext e1 s1, p1⟩
  | false => exact p1.here rfl s1
theorem s_orT (ha : PT X a (tB' C Ex t)) (hb : PW X (.BoolOp .Or (b :: rest) pos) (tB' C Ex u)) : PW X (.BoolOp .Or (a :: b :: rest) pos) (tB' C Ex fun δ S => (t δ S).bind fun c S1 => if c = true then .ok true S1 else u δ S1) := by
  refine PW.imp (pw_or ha hb) fun σ H Q ⟨μ, δ, S, st, p⟩ => ⟨μ, δ, S, st, p.bind.imp fun x H1 ⟨μ1, S1, d1, e1, r1, s1, p1⟩ => ?_⟩
  subst r1
  cases x with
  | true => exact p1.here rfl s1
  | false => exact ⟨μ1, δ, S1, st.ext e1 s1, p1⟩
theorem s_notT (ha : PT X a (tB' C Ex t)) : PT X (.UnaryOp .Not a pos) (tB' C Ex fun δ S => (t δ S).bind fun c S1 => .ok (!c) S1) := by
  refine PT.imp (pt_not ha) fun σ H Q ⟨μ, δ, S, st, p⟩ => ⟨μ, δ, S, st, p.bind.imp fun x H1 ⟨μ1, S1, d1, e1, r1, s1, p1⟩ => ?_⟩
  subst r1
  exact p1.here rfl s1
theorem s_ite {q : Expr} (hc : PT X q (tB' C Ex t)) (ha : PE X a (tE C Ex f)) (hb : PE X b (tE C Ex g)) : PE X (.IfExp q a b pos) (tE C Ex fun δ S => (t δ S).bind fun k S1 => if k = true then f δ S1 else g δ S1) := by
  refine PE.imp (pe_ifExp hc ha hb) fun σ H Q ⟨μ, δ, S, st, p⟩ => ⟨μ, δ, S, st, p.bind.imp fun x H1 ⟨μ1, S1, d1, e1, r1, s1, p1⟩ => ?_⟩
  subst r1
  cases x with
  | true => exact ⟨μ1, δ, S1, st.ext e1 s1, p1⟩
  | false => exact ⟨μ1, δ, S1, st.ext e1 s1, p1⟩
variable {h : Env → Sto → R D}
theorem s_chain {c : Expr} {op op' : CmpOp} (k : Ctx C A cx X) (hm : behindInMarks op b = false) (hm' : behindInMarks op' c = false) (ha : PE X a (tE C Ex f)) (hb : PE X b (tE C Ex g)) (hc : PE X c (tE C Ex h)) :
    PE X (.Compare a [op, op'] [b, c] pos) (tE C Ex fun δ S => (f δ S).bind fun x S1 => (g δ S1).bind fun y S2 => match cmpop (erCmp op) x y S2 with
      | some true => (h δ S2).bind fun z S3 => cmpR (erCmp op') y z S3
      | some false => .ok (.bl false) S2
      | none => .bad) := by
  have ok := cmpop_ok (X := X) (C := C) (E := Ex) k.hK (by have := k.un; omega) (erCmp op)
  rw [cop_er] at ok
  have ok' := cmpop_ok (X := X) (C := C) (E := Ex) k.hK (by have := k.un; omega) (erCmp op')
  rw [cop_er] at ok'
  refine PE.imp (pe_chain ok ok' ha hb hc (show lastMarks [op, op'] [b, c] = false from hm')) fun σ H Q ⟨μ, δ, S, st, p⟩ => ?_
  refine ⟨μ, δ, S, st, p.bind.imp fun x H1 ⟨μ1, S1, d1, e1, r1, s1, p1⟩ => ?_⟩
  refine ⟨μ1, δ, S1, st.ext e1 s1, p1.bind.imp fun y H2 ⟨μ2, S2, d2, e2, r2, s2, p2⟩ => ?_⟩
  refine ⟨μ2, S2, d1, d2, r1.ext e2, r2, s2, e2.tabs (e1.tabs st.tab), ?_⟩
  unfold cmpR
  cases q : cmpop (erCmp op) d1 d2 S2 with
  | none => rw [q] at p2; exact p2.elim
  | some t =>
    rw [q] at p2
    intro v H3 μ3 e3 r s3
    cases r
    refine ⟨t, rfl, ?_⟩
    cases t with
    | true =>
      refine iteT ⟨μ3, δ, S2, (st.ext (e1.trans (e2.trans e3)) s3), (Pst.bind (p2.mono e3)).imp fun z H4 ⟨μ4, S4, d4, e4, r4, s4, p4⟩ => ?_⟩
      exact ⟨μ4, S4, d2, d4, (r2.ext e3).ext e4, r4, s4, e4.tabs (e3.tabs (e2.tabs (e1.tabs st.tab))), p4⟩
    | false => exact iteF (p2.ok e3 (.bl _) s3)
/-- argument lists -/
theorem s_args {er' : Expr → Option IT.E} {F : IT.E → Env → Sto → R D} (hs : ∀ e c, er' e = some c → ∀ es env, starEach (e :: es) env = (false, eval e env) :: starEach es env) (ih : ∀ e c, er' e = some c → PE X e (tE C Ex (F c))) :
    ∀ {es : List Expr} {cs : List IT.E}, erL er' es = some cs → PA X es (tA C Ex fun δ S => evs (fun c S => F c δ S) cs S)
  | [], cs, h => by
    cases h
    exact PA.imp pa_nil fun σ H Q ⟨μ, δ, S, st, p⟩ => p.here .nil st.sto
  | e :: es, cs, h => by
    simp only [erL] at h
    cases e1 : er' e with
    | none => rw [e1] at h; cases h
    | some c =>
      cases e2 : erL er' es with
      | none => rw [e1, e2] at h; cases h
      | some r =>
        rw [e1, e2] at h
        cases h
        refine PA.imp (pa_cons (ih e c e1) (s_args hs ih e2) (hs e c e1 es X.env)) fun σ H Q ⟨μ, δ, S, st, p⟩ => ?_
        refine ⟨μ, δ, S, st, p.bind.imp fun x H1 ⟨μ1, S1, d1, e1, r1, s1, p1⟩ => ?_⟩
        refine ⟨μ1, δ, S1, st.ext e1 s1, p1.bind.imp fun xs H2 ⟨μ2, S2, ds, e2, r2, s2, p2⟩ => ?_⟩
        exact p2.here (.cons (r1.ext e2) r2) s2
variable {es : List Expr} {fs : Env → Sto → R (List D)}
theorem s_tup {n : Nat} (ha : PA X es (tA C Ex fs)) : PE X (.Tuple es n pos) (tE C Ex fun δ S => (fs δ S).bind fun ds S1 => if ds.length ≤ sizeLine then .ok (.tup ds) S1 else .bad) := by
  refine PE.imp (pe_tup ha) fun σ H Q ⟨μ, δ, S, st, p⟩ => ⟨μ, δ, S, st, p.bind.imp fun xs H1 ⟨μ1, S1, ds, e1, r1, s1, p1⟩ => ?_⟩
  by_cases hl : ds.length ≤ sizeLine
  · rw [if_pos hl] at p1
    exact ⟨by rw [r1.length]; exact hl, fun q hq => new_tup p1 s1 r1 hq⟩
  · rw [if_neg hl] at p1
    exact p1.elim
theorem s_lst (ha : PA X es (tA C Ex fs)) : PE X (.List es pos) (tE C Ex fun δ S => (fs δ S).bind fun ds S1 => if ds.length ≤ sizeLine then .ok (.lst ds) S1 else .bad) := by
  refine PE.imp (pe_lst ha) fun σ H Q ⟨μ, δ, S, st, p⟩ => ⟨μ, δ, S, st, p.bind.imp fun xs H1 ⟨μ1, S1, ds, e1, r1, s1, p1⟩ => ?_⟩
  by_cases hl : ds.length ≤ sizeLine
  · rw [if_pos hl] at p1
    exact ⟨by rw [r1.length]; exact hl, fun q hq => new_lst p1 s1 r1 hq⟩
  · rw [if_neg hl] at p1
    exact p1.elim
theorem s_nlst (ha : PA X es (tA C Ex fs)) : PE X (.List es pos) (tE C Ex fun δ S => (fs δ S).bind fun ds S1 => if ds.length ≤ sizeLine then .ok (.ref S1.length) (S1 ++ [.lst ds]) else .bad) := by
  refine PE.imp (pe_lst ha) fun σ H Q ⟨μ, δ, S, st, p⟩ => ⟨μ, δ, S, st, p.bind.imp fun xs H1 ⟨μ1, S1, ds, e1, r1, s1, p1⟩ => ?_⟩
  by_cases hl : ds.length ≤ sizeLine
  · rw [if_pos hl] at p1
    refine ⟨by rw [r1.length]; exact hl, fun q hq => p1.ok (Ext.push hq) (.ref ?_) (s1.push hq r1)⟩
    rw [← s1.len, List.getElem?_append_right (Nat.le_refl _), Nat.sub_self]
    rfl
  · rw [if_neg hl] at p1
    exact p1.elim
theorem s_ix (k : Ctx C A cx X) (hs : PlainIx b) (ha : PE X a (tE C Ex f)) (hb : PE X b (tE C Ex g)) : PE X (.Subscript a b pos) (tE C Ex fun δ S => (f δ S).bind fun x S1 => (g δ S1).bind fun y S2 => index x y S2) :=
  PE.imp (pe_ix (index_ok (C := C) (E := Ex) k.hK) ha hb hs) fun σ H Q h => two_of h
theorem s_part (ha : PE X a (tE C Ex f)) : PO X (some a) (tO' C Ex fun δ S => (f δ S).bind fun d S1 => match d with
    | .int i => .ok (some i) S1
    | _ => .bad) := by
  refine PO.imp (po_some ha) fun σ H Q ⟨μ, δ, S, st, p⟩ => ⟨μ, δ, S, st, p.bind.imp fun x H1 ⟨μ1, S1, d, e1, r1, s1, p1⟩ => ?_⟩
  cases r1 <;> first | exact p1.elim | skip
  exact ⟨_, rfl, p1.here rfl s1⟩
theorem s_nopart : PO X none (tO' C Ex fun δ S => .ok none S) := PO.imp po_none fun σ H Q ⟨μ, δ, S, st, p⟩ => p.here rfl st.sto
variable {lo hi : Option Expr} {l l' : Env → Sto → R (Option Int)} {p2 : Pos}
theorem s_slice (k : Ctx C A cx X) (ha : PE X a (tE C Ex f)) (hl : PO X lo (tO' C Ex l)) (hh : PO X hi (tO' C Ex l')) : PE X (.Subscript a (.Slice lo hi none p2) pos) (tE C Ex fun δ S => (f δ S).bind fun x S1 => (l δ S1).bind fun i S2 => (l' δ S2).bind fun j S3 => slice x i j S3) := by
  refine PE.imp (pe_slice (slice_ok (C := C) (E := Ex) k.hK) ha hl hh) fun σ H Q ⟨μ, δ, S, st, p⟩ => ⟨μ, δ, S, st, p.bind.imp fun x H1 ⟨μ1, S1, d, e1, r1, s1, p1⟩ => ?_⟩
  refine ⟨μ1, δ, S1, st.ext e1 s1, p1.bind.imp fun i H2 ⟨μ2, S2, d2, e2, r2, s2, p2⟩ => ?_⟩
  subst r2
  refine ⟨μ2, δ, S2, (st.ext (e1.trans e2) s2), p2.bind.imp fun j H3 ⟨μ3, S3, d3, e3, r3, s3, p3⟩ => ?_⟩
  subst r3
  exact ⟨μ3, S3, d, r1.ext (e2.trans e3), s3, e3.tabs (e2.tabs (e1.tabs st.tab)), p3⟩
end
end IT
end
section
set_option Elab.async false
set_option linter.all false
set_option maxRecDepth 100000
set_option maxHeartbeats 2000000
set_option autoImplicit false
namespace IT
open PySem PySem.Spec PyProof.Rows L2
open LamX (Tabs TabS CodeO LamS TabB ExtN lamEnv lam_make2 lam_start2 run_ofS)
/-! ### x(lambda: body), the exceptions' context told of -/
theorem takes0 {X : Cx} : L2N.Takes X (fun _ _ _ _ => False) := fun _ _ x => by
  obtain ⟨_, _, _, _, _, _, _, _, _, _, _, _, _, _, _, _, z⟩ := x
  exact z.elim
/-- the context of the lambda's body -/
abbrev lamN (X : Cx) (A : Around) (outer : List PySem.Env) (s : Shared) (H : Hp) (E : XK) (scope : Scope) (f c' : Addr) : Cx :=
  (LamX.lamCx X A outer s H E scope f c').tr [] fun e s' => wpAny (model X.prog X.w) (A.deeper (lamEnv X scope s.heap.objs.size f c')) (leaving (lamEnv X scope s.heap.objs.size f c') e) (fun _ s'' => L2N.CX X.prog X.w outer H s E e s'') (fun e' s'' => L2N.CX X.prog X.w outer H s E e' s'') s'
section
variable {X : Cx} {pins : List (Addr × Obj)} {σ : L2.St} {H HZ : Hp} {s s1 : Shared}
theorem pe_actN {CXg : CXT} {Eg : XK} {Ng : List Str} {qg : Str} {sg : Scope} {g f c' : Addr} {cdg pm ctv : Value} {params : Arguments} {body : Expr} {scope : Scope} {k i : Nat} {a : Str} {pn : List (Addr × Obj)} {xe : Value → Shared → Prop} {W : WX} {E : XK} {tb : TE} {p1 p2 : Pos}
    (I : Inv X pins σ H s) (L : LamS X.env.scope scope) (hf : s.heap.get? f = some (PySem.W.kla_obj "<lambda>" (X.env.qual ++ "<lambda>") params body scope (cloFrom X.env.cells scope.names []) pm c' ctv)) (hfn : H f = none) (hfr : f ∉ frs X.stack)
    (hbind : bindArgs (PySem.W.kla_fn "<lambda>" (X.env.qual ++ "<lambda>") params body scope (cloFrom X.env.cells scope.names []) pm (.ref c') ctv) ⟨[], []⟩ = pure [])
    (tk : L2N.Takes ((cxOf CXg X.prog X.w X.K X.mg X.base Ng qg sg g cdg X.A X.stack s H Eg).tr pn xe) W) (hW : ∀ cls d σ' H', σ'.length = Ng.length → E cls d H' → W cls d σ' H') (hr : Room (k + 1) (X.A.deeper (envOfC qg sg s.heap.objs.size g cdg)))
    (hbody : ∀ (A : Around) (outer : List PySem.Env) (s : Shared) (H : Hp), Room k (A.deeper (lamEnv X scope s.heap.objs.size f c')) → PE (lamN X A outer s H E scope f c') body tb)
    (hN : Ng[i]? = some a) (hv : Vis sg a) (hd : (a == ("__debug__" : Str)) = false) (hcd : (a == ("__classdict__" : Str)) = false) :
    PE ((cxOf CXg X.prog X.w X.K X.mg X.base Ng qg sg g cdg X.A X.stack s H Eg).tr pn xe) (.Call (.Name a p1) [] [] p2)
      (fun σZ HZ Q => σZ[i]? = some (some (.ref f)) ∧ HZ c' = some (CodeO c' (X.env.qual ++ "<lambda>")) ∧ tb σ HZ Q) := by
  refine ⟨fun pinsZ sZ σZ HZ Q IZ h => ?_⟩
  obtain ⟨hs, hc, ht⟩ := h
  refine wpAny_Call_Name_kw (thn ((pe_var (pos := p1) (i := i) hN hv hd hcd).run pinsZ sZ σZ HZ (fun v H1 => v = .ref f ∧ H1 = HZ) IZ ⟨.ref f, hs, rfl, rfl⟩) fun u s1 ⟨v, H1, I1, r1, q1⟩ => ?_)
  obtain ⟨ev, eH⟩ := q1
  subst ev
  rw [eH] at I1
  obtain rfl : u = Value.ref f := r1
  have of1 : s1.heap.get? f = some (PySem.W.kla_obj "<lambda>" (X.env.qual ++ "<lambda>") params body scope (cloFrom X.env.cells scope.names []) pm c' ctv) := I1.base.keep f _ hf hfn hfr (fun z => nomatch (show f ∈ ([] : List Addr) from z))
  refine PySem.W.callWith_F0 ⟨_, _, _, _, of1⟩ ?_
  have un : Un (frs X.stack) [] H HZ s.heap s1.heap := I1.base
  obtain ⟨⟨oc, vs, t, hoc, hdc, hvc⟩, _, _⟩ := I1.hok c' _ hc
  have rc : codeAny (model X.prog X.w) (X.A.deeper (envOfC qg sg s.heap.objs.size g cdg)) (.call (.ref f) ⟨[], []⟩) (CR (L2N.CX X.prog X.w) (envOfC qg sg s.heap.objs.size g cdg :: X.stack) X.prog X.w HZ s1 Q E) s1 := by
    refine PySem.W.kla_callFunE hr.depth of1 rfl L.co L.gen rfl ⟨c', oc, vs, t, rfl, hoc, hdc, hvc⟩ ?_
    rw [hbind]
    refine wpAny_pure (wpAny_newFunctionEnv (fun y hy => (L.own y hy).2) (fun y hy => absurd hy (by simp)) (fun h₁ hns hsb => ⟨I1.nolimit.fresh _ hsb, ?_⟩) L.kind)
    show codeAny _ _ (.expr body (lamEnv X scope s1.heap.objs.size f c')) _ _
    have kp : ∀ b o, s1.heap.get? b = some o → h₁.get? b = some o := fun b o e => hsb.extBut b o (Nat.ne_of_lt (Heap.lt_size e)) (Heap.get?_push_of_some _ e)
    have J := Inv.toTry (lam_start2 (E := E) (f := f) (c' := c') (tk := s1.toks + ([] : List (Str × Value)).length) I L I1.env0 hr.hd un hns kp) (fun e s' => wpAny (model X.prog X.w) ((X.A.deeper (envOfC qg sg s.heap.objs.size g cdg)).deeper (lamEnv X scope s1.heap.objs.size f c')) (leaving (lamEnv X scope s1.heap.objs.size f c') e) (fun _ s'' => L2N.CX X.prog X.w (envOfC qg sg s.heap.objs.size g cdg :: X.stack) HZ s1 E e s'') (fun e' s'' => L2N.CX X.prog X.w (envOfC qg sg s.heap.objs.size g cdg :: X.stack) HZ s1 E e' s'') s')
    refine PySem.W.kla_codeExpr (wpAny_mono ((hbody _ _ s1 HZ (hr.deeper _)).run [] _ _ HZ Q J ht) (fun v s' hq => ?_) fun e s' hq => hq)
    obtain ⟨w', H', J', rv, q⟩ := hq
    exact ⟨w', H', J'.os, J'.bare, J'.base, J'.hok, rv, q⟩
  refine wpAny_call (codeAny_mono rc fun r s' hq => ?_)
  cases r with
  | error e => exact tk e s' (L2N.XE.of_call I1 (fun cls d H' h => hW cls d _ H' I1.len h) hq)
  | ok fl =>
    cases fl with
    | ret u => exact I1.after hq
    | next => exact False.elim hq
    | brk => exact False.elim hq
    | cont => exact False.elim hq
end
/-- the def that calls what it got -/
def GivesN (X : Cx) (Ng : List Str) (x : Str) (sg : Scope) (g : Addr) (cdg : Value) (bg : List Stmt) (a : Str) (q : Str) (TT : (XK → Hp → VK → Prop) → Hp → VK → Prop) : Prop :=
  ∀ (f c' : Addr) (s : Shared) (H : Hp) (Q : VK) (tl : XK → Hp → VK → Prop),
    (∀ (W : WX) (pn : List (Addr × Obj)) (xe : Value → Shared → Prop) (E : XK) (p1 p2 : Pos), L2N.Takes ((cxOf C8.CX0 X.prog X.w X.K X.mg X.base Ng x sg g cdg X.A X.stack s H C8.E0).tr pn xe) W → (∀ cls d σ' H', σ'.length = Ng.length → E cls d H' → W cls d σ' H') →
      PE ((cxOf C8.CX0 X.prog X.w X.K X.mg X.base Ng x sg g cdg X.A X.stack s H C8.E0).tr pn xe) (.Call (.Name a p1) [] [] p2) (fun σZ HZ Q => σZ[0]? = some (some (.ref f)) ∧ HZ c' = some (CodeO c' q) ∧ tl E HZ Q)) →
    Room 1 (X.A.deeper (envOfC x sg s.heap.objs.size g cdg)) → H c' = some (CodeO c' q) → TT tl H Q →
    ∃ t, PSs (cxOf C8.CX0 X.prog X.w X.K X.mg X.base Ng x sg g cdg X.A X.stack s H C8.E0).nox bg t ∧ t { nx := fun _ H' => Q .non H', rt := Q } (L2.start Ng [.ref f]) H
section
variable {X : Cx}
theorem pe_lamcallN {T : List (Addr × Str)} {TT : (XK → Hp → VK → Prop) → Hp → VK → Prop} {x a : Str} {g c P : Addr} {k : Nat} {pg : Arguments} {bg : List Stmt} {sg : Scope} {dV kV doc pm cdv ct oc : Value} {an od : Option Addr} {osl : Array (Option Value)} {Ng : List Str}
    {params : Arguments} {body : Expr} {scope : Scope} {t : XK → TE} {p lpos pos : Pos} (hg : Gl X x) (hm : X.mg x = some (.ref g)) (hk : PySem.W.keepIn X.K (.ref g) = true)
    (lk : X.K.lookup g = some ⟨oc, od, .func (PySem.W.fnOf x x pg bg sg dV kV doc pm an cdv ct), osl⟩) (hcg : PySem.W.codeIn X.K cdv x = true) (hb : L2.Binds X.K (PySem.W.fnOf x x pg bg sg dV kV doc pm an cdv ct) [a] []) (Sg : FnScope Ng [a] sg) (hNg : Ng[0]? = some a) (hva : Vis sg a)
    (hG : GivesN X Ng x sg g cdv bg a (X.env.qual ++ "<lambda>") TT)
    (TB : TabB X.base X.mg c P) (hcode : X.env.code = .ref c) (hmT : (P, X.env.qual ++ "<lambda>") ∈ T) (hu : ∀ p ∈ T, p.1 = P → p.2 = X.env.qual ++ "<lambda>") (hr : Room (k + 2) X.A) (L : LamS X.env.scope scope) (hdef : defaultsOf params X.env = ([], []))
    (hbind : ∀ (q : Str) (cl : List (Str × Addr)) (pm cv ctv : Value), bindArgs (PySem.W.kla_fn "<lambda>" q params body scope cl pm cv ctv) ⟨[], []⟩ = pure [])
    (hbody : ∀ (A : Around) (outer : List PySem.Env) (s : Shared) (H : Hp) (E : XK) (f c' : Addr), Room k (A.deeper (lamEnv X scope s.heap.objs.size f c')) → PE (lamN X A outer s H E scope f c') body (t E))
    (hdb : (x == ("__debug__" : Str)) = false) (hd : (a == ("__debug__" : Str)) = false) (hcd : (a == ("__classdict__" : Str)) = false) :
    PE X (.Call (.Name x p) [.Lambda params body scope lpos] [] pos) (LamX.tLam T TT t) := by
  refine ⟨fun pins s σ H Q I h => ?_⟩
  obtain ⟨hT, h⟩ := h
  refine wpAny_Call_Name_kw (ld_glob I hg hm ?_ hdb)
  refine PySem.W.callWith_K (h₀ := X.base) I.ok.mod.kin hk ?_ (by rfl) (by rfl)
  show wpAny _ _ (spliced ((false, eval (.Lambda params body scope lpos) X.env) :: backTo pos (starEach [] X.env))) _ _ s
  refine Calls.spliced_cons (lam_make2 I TB hcode hmT hu hT hdef (L.has I.ok) fun f c' pm' ctv H1 s' I1 eN T1 hf hfn hfr hco => ?_)
  refine Calls.spliced_nil ⟨I1.kIn, ?_⟩
  have rc : codeAny (model X.prog X.w) X.A (.call (.ref g) ⟨[.ref f], []⟩) (CR C8.CX0 X.stack X.prog X.w H1 s' Q C8.E0) s' := by
    refine run_ofS (N := Ng) (ps := [a]) (us := [.ref f]) (vs := [.ref f]) lk hcg Sg hr I1.env0 (hb s' [.ref f] I1.kIn rfl) (.cons rfl .nil) rfl fun hr' => ?_
    obtain ⟨t', ht', hq'⟩ := hG f c' s' H1 Q (fun E H' Q' => t E σ H' Q') (fun W pn xe E p1 p2 tk hW => pe_actN (i := 0) I1 L hf hfn hfr (hbind _ _ _ _ _) tk hW hr' (fun A outer s H hr2 => hbody A outer s H E f c' hr2) hNg hva hd hcd) (hr'.mono (by omega)) hco (h H1 eN T1)
    exact ⟨t', ht'.nox, hq'⟩
  refine wpAny_call (codeAny_mono rc fun r s2 hq => ?_)
  cases r with
  | error e => exact (show False from hq).elim
  | ok fl =>
    cases fl with
    | ret u => exact I1.after hq
    | next => exact False.elim hq
    | brk => exact False.elim hq
    | cont => exact False.elim hq
end
end IT
end
section
set_option Elab.async false
set_option linter.all false
set_option maxRecDepth 100000
set_option autoImplicit false
namespace IT
open PySem PySem.Spec PyProof.Rows L2
open LamX (Tabs TabS CodeO)
/-- what a def promises, by the evaluator -/
def spOf (C : Cfg) (c : Calls) (i : Nat) : Sp := fun vs H Q E => ∃ μ S ds, RepL C μ H vs ds ∧ StoR C μ H S ∧ Tabs C.T H ∧ Pst C E μ H (c.ca i ds S) (Rep C) Q
structure CallOk (C : Cfg) (X : Cx) (c : Calls) (i : Nat) : Prop where
  kp : PySem.W.keepIn X.K (.ref (C.ga i)) = true
  ex : ∃ (j : Nat) (fd : FuncData) (ps : List Str), Room j X.A ∧ FnOk X.prog X.w X.K X.mg X.base (L2N.CX X.prog X.w) j (C.ga i) fd ps (spOf C c i) ∧ Binds X.K fd ps []
/-- what a context tells of calls -/
structure CtxC (C : Cfg) (X : Cx) (Ex : XK) (c : Calls) (cx : Ct) : Prop where
  tk : cx.h.isNone = true → ∃ W : WX, L2N.Takes X W ∧ ∀ cls d H σ, σ.length = X.N.length → Ex cls d H → W cls d σ H
  fn : cx.h.isNone = true → ∀ J av i, c.kn i = true → CallOk { C with J := J, av := av } X c i
theorem CtxC.ps {C : Cfg} {X : Cx} {Ex : XK} {c : Calls} {cx : Ct} (k : CtxC C X Ex c cx) (hh : cx.h.isNone = true) (σ : L2.St) : PassesAt (L2N.CX X.prog X.w) X σ Ex := fun pins H s e s' I q => by
  obtain ⟨W, tk, hW⟩ := k.tk hh
  exact tk e s' (L2N.XE.of_call I (fun cls d H' h => hW cls d H' σ I.len h) q)
section
variable {C : Cfg} {Ex : XK} {A : EA} {cx : Ct} {X : Cx} {c : Calls} {a b e o : Expr} {es : List Expr} {f g : Env → Sto → R D} {fs : Env → Sto → R (List D)} {pos p apos : Pos} {x : Str}
/-- a statement that needs what a false fact would give -/
theorem pe_no {t : TE} (h : ∀ σ H Q, ¬ t σ H Q) : PE X e t := ⟨fun _ _ σ H Q _ q => (h σ H Q q).elim⟩
theorem star_any (hs : ∀ e es env, starEach (e :: es) env = (false, eval e env) :: starEach es env) (env : PySem.Env) : ∀ es : List Expr, (starEach es env).any (·.1) = false
  | [] => rfl
  | e :: es => by rw [hs, List.any_cons, star_any hs env es]; rfl
theorem backTo_any (pos : Pos) : ∀ l : List (Bool × Sem Value), (backTo pos l).any (·.1) = l.any (·.1) := fun l => by
  unfold backTo
  first
  | (simp [List.any_map]; done)
  | (rw [List.any_map]; rfl)
  | rfl
theorem star_of {er' : Expr → Option IT.E} (hs : ∀ e c, er' e = some c → ∀ es env, starEach (e :: es) env = (false, eval e env) :: starEach es env) (env : PySem.Env) : ∀ {es : List Expr} {cs : List IT.E}, erL er' es = some cs → (starEach es env).any (·.1) = false
  | [], _, _ => rfl
  | e :: es, cs, h => by
    simp only [erL] at h
    cases e1 : er' e with
    | none => rw [e1] at h; cases h
    | some c =>
      cases e2 : erL er' es with
      | none => rw [e1, e2] at h; cases h
      | some r =>
        rw [hs e c e1, List.any_cons, star_of hs env e2]
        rfl
theorem star_back {er' : Expr → Option IT.E} (hs : ∀ e c, er' e = some c → ∀ es env, starEach (e :: es) env = (false, eval e env) :: starEach es env) (env : PySem.Env) (pos : Pos) {es : List Expr} {cs : List IT.E} (h : erL er' es = some cs) : (backTo pos (starEach es env)).any (·.1) = false := by
  rw [backTo_any]
  exact star_of hs env h
/-- o.append(e) -/
theorem s_app (k : Ctx C A cx X) (hn : noCall0 o = true) (hl : (apos.endLine == pos.line) = true) (hs : ∀ env, starEach [e] env = (false, eval e env) :: starEach [] env) (ho : PE X o (tE C Ex f)) (he : PE X e (tE C Ex g)) :
    PE X (.Call (.Attribute o "append" apos) [e] [] pos) (tE C Ex fun δ S => (f δ S).bind fun x S1 => match x with
      | .ref m => (g δ S1).bind fun y S2 => append (.ref m) y S2
      | _ => .bad) := by
  have hm : MtR X "list.append" rAppend := mt_append
  have ha : PA X [e] (tCons (tE C Ex g) tNil) := pa_cons he pa_nil (hs _)
  refine PE.imp (pe_bm PySem.F.plainAttrs_list PySem.F.slot_list_append PySem.F.type_list_append hm ho ha (attr_base hn _ _ _) (by rw [hs]; rfl) hl (hs _) (by rfl)) fun σ H Q ⟨μ, δ, S, st, p⟩ => ⟨μ, δ, S, st, p.bind.imp fun x H1 ⟨μ1, S1, d1, e1, r1, s1, p1⟩ => ?_⟩
  cases r1 with
  | @ref n l hm =>
    obtain ⟨ob, h1, xs, rfl⟩ := s1.lt (List.mem_of_getElem? hm)
    refine ⟨.inl ⟨rfl, xs, SqL.of h1⟩, μ1, δ, S1, st.ext e1 s1, Pst.bind p1 |>.imp fun y H2 ⟨μ2, S2, d2, e2, r2, s2, p2⟩ => ?_⟩
    exact (append_ok (E := Ex) k.hK (x := .ref l) (vs := [y]) ⟨μ2, S2, y, _, _, rfl, .ref (e2.get hm), r2, s2, e2.tabs (e1.tabs st.tab), p2⟩).1
  | _ => exact p1.elim
/-- a.join(b) -/
theorem s_join (k : Ctx C A cx X) (hn : noCall0 a = true) (hl : (apos.endLine == pos.line) = true) (hs : ∀ env, starEach [b] env = (false, eval b env) :: starEach [] env) (ha : PE X a (tE C Ex f)) (hb : PE X b (tE C Ex g)) :
    PE X (.Call (.Attribute a "join" apos) [b] [] pos) (tE C Ex fun δ S => (f δ S).bind fun x S1 => match x with
      | .str z => (g δ S1).bind fun y S2 => joinD (.str z) y S2
      | _ => .bad) := by
  refine PE.imp (pe_join ha hb (hs _) (attr_base hn _ _ _) hl) fun σ H Q ⟨μ, δ, S, st, p⟩ => ⟨μ, δ, S, st, p.bind.imp fun x H1 ⟨μ1, S1, d1, e1, r1, s1, p1⟩ => ?_⟩
  cases r1 with
  | str z =>
    refine ⟨⟨z, rfl⟩, μ1, δ, S1, st.ext e1 s1, Pst.bind p1 |>.imp fun y H2 ⟨μ2, S2, d2, e2, r2, s2, p2⟩ => ?_⟩
    obtain ⟨z', q, ys, h1, h2, h3, h4, h5⟩ := join_ok (E := Ex) k.hK s2 (.str z) r2 p2
    exact ⟨z', q, ys, h1, by rw [h2], h3, h4, h5⟩
  | _ => exact p1.elim
/-- a built-in function of one value -/
theorem s_bi0 (k : Ctx C A cx X) (hh : cx.h.isNone = true) (hg : gloB A.sc x = true) (hG : A.G x = some .free) (hd : ¬ dbg x = true) {bi : BI} {r : List V → Hp → VK → Prop} (ok : CallR X (biV bi) r) (hb : biOf x = some bi) (hs : ∀ env, starEach [a] env = (false, eval a env) :: starEach [] env) (ha : PA X [a] (tA C Ex fs)) :
    PE X (.Call (.Name x p) [a] [] pos) (tCB r (tA C Ex fs)) := by
  obtain ⟨d1, d2, d3⟩ := dbg_ok hd
  have g := k.gl' hg
  have m : X.mg x = none := k.gl x _ hG
  have hs' := hs X.env
  unfold biOf at hb
  repeat' split at hb
  all_goals first
    | (cases hb; done)
    | (rename_i ex; subst ex; cases hb; first
        | exact pe_callB ok g m rfl ha d3 d1 hs' rfl
        | exact pe_callTy ok g m rfl ha d3 d1 hs' rfl)
    | (cases hb; first
        | exact pe_callB ok g m rfl ha d3 d1 hs' rfl
        | exact pe_callTy ok g m rfl ha d3 d1 hs' rfl)
    | (rename_i ex _; subst ex; cases hb; first
        | exact pe_callB ok g m rfl ha d3 d1 hs' rfl
        | exact pe_callTy ok g m rfl ha d3 d1 hs' rfl)
theorem s_bi1 (k : Ctx C A cx X) (hh : cx.h.isNone = true) (hg : gloB A.sc x = true) (hG : A.G x = some .free) (hd : ¬ dbg x = true) {bi : BI} {mu : Bool} (hb : (biOf x).map (muI mu) = some bi) (hs : ∀ env, starEach [a] env = (false, eval a env) :: starEach [] env) (ha : PA X [a] (tA C Ex fs)) :
    PE X (.Call (.Name x p) [a] [] pos) (tE C Ex fun δ S => (fs δ S).bind fun ds S1 => bins bi ds S1) := by
  obtain ⟨b0, hb0, hbi⟩ := Option.map_eq_some_iff.mp hb
  have ok := bins_ok (X := X) (C := C) (E := Ex) k.hK (by have := k.un; omega) (k.cal hh) bi
  have ev0 : biV bi = biV b0 := by rw [← hbi]; cases mu <;> cases b0 <;> rfl
  rw [ev0] at ok
  exact PE.imp (s_bi0 k hh hg hG hd ok hb0 hs ha) fun σ H Q ⟨μ, δ, S, st, p⟩ => ⟨μ, δ, S, st, p.bind.imp fun xs H1 ⟨μ1, S1, ds, e1, r1, s1, p1⟩ => ⟨μ1, S1, ds, r1, s1, e1.tabs st.tab, p1⟩⟩
theorem s_gcd (k : Ctx C A cx X) (hh : cx.h.isNone = true) (hg : gloB A.sc x = true) (hG : A.G x = some .gcd) (hd : ¬ dbg x = true) (hs : ∀ env, starEach [a, b] env = (false, eval a env) :: starEach [b] env) (hpl : (backTo pos (starEach [b] X.env)).any (·.1) = false) (ha : PA X [a, b] (tA C Ex fs)) :
    PE X (.Call (.Name x p) [a, b] [] pos) (tE C Ex fun δ S => (fs δ S).bind fun ds S1 => bins .gcd ds S1) := by
  obtain ⟨d1, d2, d3⟩ := dbg_ok hd
  have ok := bins_ok (X := X) (C := C) (E := Ex) k.hK (by have := k.un; omega) (k.cal hh) .gcd
  exact PE.imp (pe_callBfun ok (k.gl' hg) (k.gl x _ hG) ha d1 (hs _) hpl) fun σ H Q ⟨μ, δ, S, st, p⟩ => ⟨μ, δ, S, st, p.bind.imp fun xs H1 ⟨μ1, S1, ds, e1, r1, s1, p1⟩ => ⟨μ1, S1, ds, r1, s1, e1.tabs st.tab, p1⟩⟩
/-- isinstance(a, a built-in type) -/
theorem s_isi (k : Ctx C A cx X) {t : Str} {u : String} {p1 : Pos} (hg : gloB A.sc "isinstance" = true) (hG : A.G "isinstance" = some .free) (hgt : gloB A.sc t = true) (hGt : A.G t = some .free) (hd : ¬ dbg t = true) (ht : tyOf t = some u) (hs : ∀ es env, starEach (a :: es) env = (false, eval a env) :: starEach es env) (ha : PE X a (tE C Ex f)) :
    PE X (.Call (.Name "isinstance" p) [a, .Name t p1] [] pos) (tE C Ex fun δ S => (f δ S).bind fun x S1 => isiD u x S1) := by
  obtain ⟨d1, d2, d3⟩ := dbg_ok hd
  have mt : X.mg t = none := k.gl t _ hGt
  have pt : PE X (.Name t p1) (tC (.ty u)) := by
    have g := k.gl' hgt
    unfold tyOf at ht
    repeat' split at ht
    all_goals first
      | (cases ht; done)
      | (rename_i ex; subst ex; cases ht; exact pe_bltn g mt rfl rfl d3 d1)
  have hp : PA X [a, .Name t p1] (tCons (tE C Ex f) (tCons (tC (.ty u)) tNil)) := pa_cons ha (pa_cons pt pa_nil) (hs _ _)
  refine PE.imp (pe_callB (isi_ok (X := X) (C := C) (E := Ex) k.hK u) (k.gl' hg) (k.gl _ _ hG) rfl hp (by decide) (by decide) (hs _ _) (by rfl)) fun σ H Q ⟨μ, δ, S, st, p⟩ => ⟨μ, δ, S, st, p.bind.imp fun x H1 ⟨μ1, S1, d1, e1, r1, s1, p1⟩ => ?_⟩
  exact ⟨μ1, S1, x, d1, rfl, r1, s1, e1.tabs st.tab, p1⟩
/-- a call of a def by its name -/
theorem s_call0 (k : Ctx C A cx X) (kc : CtxC C X Ex c cx) (hh : cx.h.isNone = true) {i : Nat} (hg : gloB A.sc x = true) (hG : A.G x = some (.fn i)) (hd : ¬ dbg x = true) (hk : c.kn i = true) :
    PE X (.Call (.Name x p) [] [] pos) (tE C Ex fun _ S => c.ca i [] S) := by
  obtain ⟨d1, d2, d3⟩ := dbg_ok hd
  obtain ⟨kp, j, fd, ps, hr, F, hb⟩ := (kc.fn hh C.J C.av i hk : CallOk C X c i)
  refine ⟨fun pins s σ H Q I ⟨μ, δ, S, st, h⟩ => ?_⟩
  refine wpAny_Call_Name_kw (ld_glob I (k.gl' hg) (k.gl x _ hG).1 ?_ d1)
  exact PySem.W.callWith_K0 I.kIn kp (run_fnS (us := []) (E := fun _ => Ex) F hr hb (kc.ps hh σ) I .nil ⟨μ, S, [], .nil, st.sto, st.tab, h⟩)
theorem s_call (k : Ctx C A cx X) (kc : CtxC C X Ex c cx) (hh : cx.h.isNone = true) {i : Nat} (hg : gloB A.sc x = true) (hG : A.G x = some (.fn i)) (hd : ¬ dbg x = true) (hk : c.kn i = true) (ha : PA X (e :: es) (tA C Ex fs))
    (hs : starEach (e :: es) X.env = (false, eval e X.env) :: starEach es X.env) (hpl : (backTo pos (starEach es X.env)).any (·.1) = false) :
    PE X (.Call (.Name x p) (e :: es) [] pos) (tE C Ex fun δ S => (fs δ S).bind fun ds S1 => c.ca i ds S1) := by
  obtain ⟨d1, d2, d3⟩ := dbg_ok hd
  obtain ⟨kp, j, fd, ps, hr, F, hb⟩ := (kc.fn hh C.J C.av i hk : CallOk C X c i)
  exact PE.imp (pe_callS (E := fun _ => Ex) F hr (k.gl' hg) (k.gl x _ hG).1 kp hb (kc.ps hh) ha d1 hs hpl) fun σ H Q ⟨μ, δ, S, st, p⟩ => ⟨μ, δ, S, st, p.bind.imp fun xs H1 ⟨μ1, S1, ds, e1, r1, s1, p1⟩ => ⟨μ1, S1, ds, r1, s1, e1.tabs st.tab, p1⟩⟩
/-- a call of what a slot holds -/
theorem s_callv (k : Ctx C A cx X) (kc : CtxC C X Ex c cx) (hh : cx.h.isNone = true) {i : Nat} (hv : visB A.sc x = true) (hi : idx A.N x = some i) (hd : ¬ dbg x = true) (ha : PA X (e :: es) (tA C Ex fs))
    (hs : starEach (e :: es) X.env = (false, eval e X.env) :: starEach es X.env) (hpl : (backTo pos (starEach es X.env)).any (·.1) = false) :
    PE X (.Call (.Name x p) (e :: es) [] pos) (tE C Ex fun δ S => match δ[i]? with
      | some (some (.glo f)) => if c.kn f = true then (fs δ S).bind fun ds S1 => c.ca f ds S1 else .bad
      | _ => .bad) := by
  obtain ⟨d1, d2, d3⟩ := dbg_ok hd
  refine ⟨fun pins s σ H Q I ⟨μ, δ, S, st, h⟩ => ?_⟩
  dsimp only at h
  split at h
  · rename_i f hf
    split at h
    · rename_i hk
      obtain ⟨kp, j, fd, ps, hr, F, hb⟩ := (kc.fn hh C.J C.av f hk : CallOk C X c f)
      obtain ⟨v, hv', r⟩ := st.env.at_ i _ hf
      cases r
      have e := idx_ok hi
      rw [← k.hN] at e
      have vis := visB_ok hv
      rw [← k.hs] at vis
      refine wpAny_Call_Name_kw (thn ((pe_var (pos := p) e vis d1 d2).run pins s σ H (fun v H1 => v = .ref (C.ga f) ∧ H1 = H) I ⟨.ref (C.ga f), hv', rfl, rfl⟩) fun u s1 ⟨v, H1, I1, r1, q1⟩ => ?_)
      obtain ⟨rfl, rfl⟩ := q1
      cases r1
      have q : tA C Ex fs σ H1 fun vs H2 => spOf C c f vs H2 Q Ex := ⟨μ, δ, S, st, Pst.bind h |>.imp fun xs H2 ⟨μ1, S1, ds, e1, r1, s1, p1⟩ => ⟨μ1, S1, ds, r1, s1, e1.tabs st.tab, p1⟩⟩
      refine PySem.W.callWith_K (h₀ := X.base) I.ok.mod.kin kp (thn (ha.run pos pins s1 σ _ _ I1 q) fun us s2 ⟨vs, H2, I2, r, q⟩ => ⟨I2.kIn, ?_⟩) hs hpl
      exact run_fnS (E := fun _ => Ex) F hr hb (kc.ps hh σ) I2 r q
    · exact h.elim
  · exact h.elim
end
end IT
end
section
set_option Elab.async false
set_option linter.all false
set_option maxRecDepth 100000
set_option autoImplicit false
namespace IT
open PySem PySem.Spec PyProof.Rows L2
open LamX (Tabs TabS CodeO)
/-! ### targets -/
theorem wipe_get : ∀ {vs : List Nat} {σ : L2.St} (j : Nat), (wipe σ vs)[j]? = if j ∈ vs then (if j < σ.length then some none else none) else σ[j]?
  | [], σ, j => by simp [wipe]
  | v :: vs, σ, j => by
    unfold wipe
    by_cases h : v = j
    · subst h
      by_cases hl : v < σ.length
      · rw [List.getElem?_set_self (by rw [wipe_length]; exact hl)]
        simp [hl]
      · rw [List.getElem?_eq_none (by rw [List.length_set, wipe_length]; omega)]
        simp [hl]
    · rw [List.getElem?_set_ne h, wipe_get j]
      have e : (j ∈ v :: vs) ↔ j ∈ vs := by
        rw [List.mem_cons]
        exact ⟨fun z => z.elim (fun z => absurd z.symm h) id, .inr⟩
      simp only [e]
theorem wipe_set {σ : L2.St} {i : Nat} {v : Option V} {vs : List Nat} (h : i ∈ vs) : wipe (σ.set i v) vs = wipe σ vs := by
  apply List.ext_getElem?
  intro j
  rw [wipe_get, wipe_get, List.length_set]
  by_cases hj : j ∈ vs
  · rw [if_pos hj, if_pos hj]
  · rw [if_neg hj, if_neg hj, List.getElem?_set_ne (fun (z : i = j) => hj (by rw [← z]; exact h))]
theorem PG.imp {X : Cx} {e : Expr} {t t' : TG} (h : PG X e t) (k : ∀ v σ H Q, t' v σ H Q → t v σ H Q) : PG X e t' := ⟨fun pins s σ H v u Q I r q => h.run pins s σ H v u Q I r (k v σ H Q q)⟩
theorem PGs.imp {X : Cx} {e : List Expr} {t t' : TGs} (h : PGs X e t) (k : ∀ v σ H Q, t' v σ H Q → t v σ H Q) : PGs X e t' := ⟨fun pins s σ H v u Q I r q => h.run pins s σ H v u Q I r (k v σ H Q q)⟩
def gT (C : Cfg) (tg : T) : TG := fun v σ H Q => ∃ μ δ S d δ', Stt C μ H S σ δ ∧ Rep C μ H v d ∧ T.put S tg d δ = some δ' ∧
  ∀ σ', Stt C μ H S σ' δ' → (∀ vs : List Nat, (∀ i ∈ T.slots tg, i ∈ vs) → wipe σ' vs = wipe σ vs) → Q σ' H
def gTs (C : Cfg) (tgs : List T) : TGs := fun v σ H Q => ∃ μ δ S d δ', Stt C μ H S σ δ ∧ RepL C μ H v d ∧ T.puts S tgs d δ = some δ' ∧
  ∀ σ', Stt C μ H S σ' δ' → (∀ vs : List Nat, (∀ i ∈ T.slotss tgs, i ∈ vs) → wipe σ' vs = wipe σ vs) → Q σ' H
theorem locB_ok {sc : Scope} {x : Str} (h : locB sc x = true) : sc.names.lookup x = some .local ∨ sc.names.lookup x = some .cell := by
  unfold locB at h
  split at h <;> first | cases h | skip
  · exact .inl (by assumption)
  · exact .inr (by assumption)
theorem Stt.set {C : Cfg} {μ : List Addr} {H : Hp} {S : Sto} {σ : L2.St} {δ : Env} (st : Stt C μ H S σ δ) {v : V} {d : D} (r : Rep C μ H v d) {i : Nat} (hi : ∀ j w, C.J = some (j, w) → i ≠ j) : Stt C μ H S (σ.set i (some v)) (δ.set i (some d)) :=
  ⟨st.env.set r i, st.sto, st.tab, fun j w e => by rw [List.getElem?_set_ne (hi j w e)]; exact st.inv j w e⟩
theorem puts_len {S : Sto} : ∀ {ts : List T} {ds : List D} {δ δ' : Env}, T.puts S ts ds δ = some δ' → ts.length = ds.length
  | [], [], _, _, _ => rfl
  | [], _ :: _, _, _, h => by simp [T.puts] at h
  | _ :: _, [], _, _, h => by simp [T.puts] at h
  | t :: ts, d :: ds, δ, δ', h => by
    simp only [T.puts] at h
    cases e : T.put S t d δ with
    | none => rw [e] at h; cases h
    | some δ1 => rw [e] at h; exact congrArg (· + 1) (puts_len h)
theorem er_assign {A : EA} : ∀ {n : Nat} {e : Expr} {t : T}, erT A n e = some t → ∀ (es : List Expr) (env : PySem.Env), assignEach (e :: es) env = (false, assign e env) :: assignEach es env
  | 0, _, _, h => by cases h
  | n + 1, e, _, h => fun es env => by
    cases e <;> first | rfl | (unfold erT at h; cases h)
mutual
theorem s_put {C : Cfg} {A : EA} {cx : Ct} {X : Cx} (k : Ctx C A cx X) : ∀ {n : Nat} {e : Expr} {t : T}, erT A n e = some t → PG X e (gT C t)
  | 0, _, _, h => by cases h
  | n + 1, e, t, h => by
    cases e with
    | Name x pos =>
      unfold erT at h
      split at h
      · rename_i hx
        simp only [Option.map_eq_some_iff] at h
        obtain ⟨i, hi, rfl⟩ := h
        have e := idx_ok hi
        have e' := e
        rw [← k.hN] at e
        obtain ⟨hl, hf⟩ := k.st x hx.1
        refine PG.imp (pg_name (by rw [k.hN]; exact k.nd) e hl hf) fun v σ H Q ⟨μ, δ, S, d, δ', st, r, hp, q⟩ => ?_
        simp only [T.put] at hp
        cases hp
        refine q _ (st.set r fun j w ej z => ?_) fun vs hv => wipe_set (hv i (by simp [T.slots]))
        obtain ⟨nm, h1, h2⟩ := k.jj j w ej
        rw [← z, e'] at h2
        exact hx.2 (h1.trans h2.symm)
      · cases h
    | Tuple es m pos =>
      unfold erT at h
      simp only [Option.map_eq_some_iff] at h
      obtain ⟨ts, ht, rfl⟩ := h
      obtain ⟨ps, hn, hst⟩ := s_puts k ht
      have both : ∀ {X : Cx}, PG X (.Tuple es m pos) (gTup X.K ts.length (gTs C ts)) → PG X (.Tuple es m pos) (gLst X.K ts.length (gTs C ts)) → X.K = C.K → PG X (.Tuple es m pos) (gT C (.t ts)) := fun {X} p1 p2 hK => by
        refine ⟨fun pins s σ H v u Q I rv ⟨μ, δ, S, d, δ', st, r, hp, q⟩ => ?_⟩
        by_cases hd : ∃ xs, d = .tup xs
        · obtain ⟨xs, rfl⟩ := hd
          simp only [T.put] at hp
          obtain ⟨a, ys, rfl, h1, r1⟩ := tup_at r
          have hl := puts_len hp
          refine p1.run pins s σ H _ u Q I rv ⟨a, ys, rfl, by rw [hK]; exact h1.seq, by rw [r1.length, hl], μ, δ, S, xs, δ', st, r1, hp, fun σ' s' w => q σ' s' fun vs hv => w vs (by simpa [T.slots] using hv)⟩
        · have e2 : ∃ xs, listOf S d = some xs ∧ T.puts S ts xs δ = some δ' := by
            have hp' : (match listOf S d with | some xs => T.puts S ts xs δ | none => none) = some δ' := by
              cases d <;> first | exact hp | exact absurd ⟨_, rfl⟩ hd
            cases e : listOf S d with
            | none => rw [e] at hp'; cases hp'
            | some xs => rw [e] at hp'; exact ⟨xs, rfl, hp'⟩
          obtain ⟨xs, e2, hp⟩ := e2
          obtain ⟨a, ys, rfl, h1, r1⟩ := list_at st.sto r e2
          have hl := puts_len hp
          refine p2.run pins s σ H _ u Q I rv ⟨a, ys, rfl, SqL.of h1, by rw [r1.length, hl], μ, δ, S, xs, δ', st, r1, hp, fun σ' s' w => q σ' s' fun vs hv => w vs (by simpa [T.slots] using hv)⟩
      cases hh : cx.h.isNone with
      | true => exact both (pg_tup (k.cal hh) ps hn hst) (pg_lst (k.cal hh) ps hn hst) k.hK
      | false => exact both (pg_tupH (k.ht hh) ps hn hst) (pg_lstH (k.ht hh) ps hn hst) k.hK
    | _ => unfold erT at h; cases h
theorem s_puts {C : Cfg} {A : EA} {cx : Ct} {X : Cx} (k : Ctx C A cx X) : ∀ {n : Nat} {es : List Expr} {ts : List T}, erTs A n es = some ts → PGs X es (gTs C ts) ∧ (assignEach es X.env).length = ts.length ∧ (assignEach es X.env).findIdx? (·.1) = none
  | 0, _, _, h => by cases h
  | n + 1, [], ts, h => by
    unfold erTs at h
    cases h
    refine ⟨PGs.imp pgs_nil fun v σ H Q ⟨μ, δ, S, d, δ', st, r, hp, q⟩ => ?_, rfl, rfl⟩
    cases d with
    | nil =>
      cases r
      simp only [T.puts] at hp
      cases hp
      exact ⟨rfl, q σ st fun _ _ => rfl⟩
    | cons _ _ => simp [T.puts] at hp
  | n + 1, e :: es, ts, h => by
    unfold erTs at h
    cases e1 : erT A n e with
    | none => rw [e1] at h; cases h
    | some t =>
      cases e2 : erTs A n es with
      | none => rw [e1, e2] at h; cases h
      | some r =>
        rw [e1, e2] at h
        cases h
        have p1 := s_put k e1
        obtain ⟨p2, hn, hst⟩ := s_puts k e2
        have ha := er_assign e1 es X.env
        refine ⟨PGs.imp (pgs_cons p1 p2 (by rw [ha]; rfl)) fun v σ H Q ⟨μ, δ, S, d, δ', st, rl, hp, q⟩ => ?_, by rw [ha]; simp [hn], by rw [ha, List.findIdx?_cons, hst]; rfl⟩
        cases d with
        | nil => simp [T.puts] at hp
        | cons d ds =>
          cases rl with
          | cons rv rr =>
            simp only [T.puts] at hp
            cases ep : T.put S t d δ with
            | none => rw [ep] at hp; cases hp
            | some δ1 =>
              rw [ep] at hp
              refine ⟨_, _, rfl, μ, δ, S, d, δ1, st, rv, ep, fun σ1 st1 w1 => ⟨μ, δ1, S, ds, δ', st1, rr, hp, fun σ2 st2 w2 => q σ2 st2 fun vs hv => ?_⟩⟩
              have hv' : ∀ i, i ∈ T.slots t ∨ i ∈ T.slotss r → i ∈ vs := fun i hi => hv i (by simpa [T.slotss] using hi)
              rw [w2 vs fun i hi => hv' i (.inr hi), w1 vs fun i hi => hv' i (.inl hi)]
end
end IT
end
section
set_option Elab.async false
set_option linter.all false
set_option maxRecDepth 100000
set_option autoImplicit false
namespace IT
open PySem PySem.Spec PyProof.Rows L2
open LamX (Tabs TabS CodeO)
/-! ### what is walked -/
def ItR0 (C : Cfg) (μ0 : List Addr) (H0 : Hp) (J : It) (q : List D × List (Nat × List D)) : Prop := ∀ μ H S, Ext C.T μ0 H0 μ H → StoR C μ H S → stands q.2 S = true →
  (∀ i, q.1.length ≤ i → J.stop i H) ∧ ∀ i d, q.1[i]? = some d → J.go i H ∧ ∀ x H', J.yld i H x H' → Ext C.T μ H μ H' ∧ Rep C μ H' x d ∧ StoR C μ H' S
/-- also where some new lists are out of reach -/
def AvOk (C : Cfg) (H0 : Hp) (av : List Addr) : Prop := ∀ a xs, H0 a = some (.lst xs) → a ∉ C.av → a ∉ av
def ItR (C : Cfg) (μ0 : List Addr) (H0 : Hp) (J : It) (q : List D × List (Nat × List D)) : Prop := ∀ av, AvOk C H0 av → ItR0 { C with av := av } μ0 H0 J q
abbrev tIt (C : Cfg) (E : XK) (f : Env → Sto → R (List D × List (Nat × List D))) : TI := tI C E f (ItR C)
theorem stands_app {g g' : List (Nat × List D)} {S : Sto} (h : stands (g ++ g') S = true) : stands g S = true ∧ stands g' S = true := by
  unfold stands at h ⊢
  rw [List.all_append, Bool.and_eq_true] at h
  exact h
section
variable {C : Cfg} {μ0 : List Addr} {H0 : Hp} {S0 : Sto}
/-- a list, later -/
def LstR (C : Cfg) (μ0 : List Addr) (H0 : Hp) (a : Addr) (xs : List D) (g : List (Nat × List D)) : Prop := ∀ μ H S, Ext C.T μ0 H0 μ H → StoR C μ H S → stands g S = true → ∃ vs, SqL C.K H a vs ∧ RepL C μ H vs xs
def TupR (C : Cfg) (μ0 : List Addr) (H0 : Hp) (a : Addr) (xs : List D) : Prop := ∀ μ H, Ext C.T μ0 H0 μ H → ∃ vs, SqT C.K H a vs ∧ RepL C μ H vs xs
theorem lst_later (st : StoR C μ0 H0 S0) {v : V} {d : D} {xs : List D} (r : Rep C μ0 H0 v d) (e : listOf S0 d = some xs) : ∃ a, v = .ref a ∧ (∃ vs, SqL C.K H0 a vs) ∧
    ∀ av, AvOk C H0 av → LstR { C with av := av } μ0 H0 a xs (grd d xs) := by
  obtain ⟨a, ys, rfl, h1, r1⟩ := list_at st r e
  refine ⟨a, rfl, ⟨ys, SqL.of h1⟩, fun av hav μ H S ex s hs => ?_⟩
  cases r with
  | lst ha hn hv rl =>
    simp only [listOf] at e
    cases e
    exact ⟨_, SqL.of (ex.old _ _ ha hn (fun ps z => by cases z)).1, RepL.ext ex (RepL.to (C := C) (C' := { C with av := av }) rfl rfl hav rl)⟩
  | @ref n b hm =>
    simp only [grd, stands, List.all_cons, List.all_nil, Bool.and_true] at hs
    cases q : S[n]? with
    | none => rw [q] at hs; cases hs
    | some o =>
      rw [q] at hs
      cases o with
      | dct _ => cases hs
      | lst zs =>
        have ez := D.beqL_eq hs
        subst ez
        obtain ⟨a', h2, vs, h3, h4⟩ := s.at_ n _ q
        rw [ex.get hm] at h2
        cases h2
        exact ⟨vs, SqL.of h3, h4⟩
  | _ => simp [listOf] at e
theorem tup_later {v : V} {xs : List D} (r : Rep C μ0 H0 v (.tup xs)) : ∃ a, v = .ref a ∧ (∃ vs, SqT C.K H0 a vs) ∧ ∀ av, AvOk C H0 av → TupR { C with av := av } μ0 H0 a xs := by
  obtain ⟨a, ys, rfl, h1, r1⟩ := tup_at r
  exact ⟨a, rfl, ⟨ys, h1.seq⟩, fun av hav μ H ex => ⟨ys, (ex.tup h1).seq, RepL.ext ex (RepL.to (C := C) (C' := { C with av := av }) rfl rfl hav r1)⟩⟩
theorem it_list {a : Addr} {xs : List D} {g : List (Nat × List D)} (h : LstR C μ0 H0 a xs g) : ItR0 C μ0 H0 (Itl C.K a) (xs, g) := fun μ H S ex s hs => by
  obtain ⟨vs, h1, r⟩ := h μ H S ex s hs
  refine ⟨fun i hi => ⟨vs, h1, by rw [r.length]; exact hi⟩, fun i d hd => ?_⟩
  obtain ⟨v, hv, rv⟩ := r.get hd
  refine ⟨⟨vs, v, h1, hv⟩, fun x H' y => ?_⟩
  obtain ⟨rfl, hy⟩ := y
  have e := hy vs h1
  rw [hv] at e
  cases e
  exact ⟨Ext.refl _ _ _, rv, s⟩
theorem it_tup {a : Addr} {xs : List D} (h : TupR C μ0 H0 a xs) : ItR0 C μ0 H0 (Itt C.K a) (xs, []) := fun μ H S ex s hs => by
  obtain ⟨vs, h1, r⟩ := h μ H ex
  refine ⟨fun i hi => ⟨vs, h1, by rw [r.length]; exact hi⟩, fun i d hd => ?_⟩
  obtain ⟨v, hv, rv⟩ := r.get hd
  refine ⟨⟨vs, v, h1, hv⟩, fun x H' y => ?_⟩
  obtain ⟨rfl, hy⟩ := y
  have e := hy vs h1
  rw [hv] at e
  cases e
  exact ⟨Ext.refl _ _ _, rv, s⟩
theorem it_str (z : Str) : ItR0 C μ0 H0 (Its z) (z.cps.toList.map fun c => D.str ⟨#[c]⟩, []) := fun μ H S ex s hs => by
  refine ⟨fun i hi => ?_, fun i d hd => ?_⟩
  · rw [List.length_map] at hi
    exact hi
  · rw [List.getElem?_map, Option.map_eq_some_iff] at hd
    obtain ⟨c, hc, rfl⟩ := hd
    rw [Array.getElem?_toList] at hc
    refine ⟨(Array.getElem?_eq_some_iff.mp hc).1, fun x H' y => ?_⟩
    obtain ⟨rfl, c', hc', rfl⟩ := y
    rw [hc] at hc'
    cases hc'
    exact ⟨Ext.refl _ _ _, .str _, s⟩
theorem it_rng (lo : Int) (n : Nat) : ItR0 C μ0 H0 (Itr lo n) (rngList lo n, []) := fun μ H S ex s hs => by
  have hl : (rngList lo n).length = n := by simp [rngList]
  refine ⟨fun i hi => by rw [hl] at hi; exact hi, fun i d hd => ?_⟩
  have hi : i < n := by
    have := (List.getElem?_eq_some_iff.mp hd).1
    rw [hl] at this
    exact this
  have ed : d = .int (lo + (i : Int)) := by
    simp only [rngList, List.getElem?_map] at hd
    rw [List.getElem?_range hi] at hd
    exact (Option.some.inj hd).symm
  subst ed
  refine ⟨hi, fun x H' y => ?_⟩
  obtain ⟨rfl, rfl⟩ := y
  exact ⟨Ext.refl _ _ _, .int _, s⟩
theorem zipD_len : ∀ (xs ys : List D), (zipD xs ys).length = min xs.length ys.length
  | [], ys => by simp [zipD]
  | x :: xs, [] => by simp [zipD]
  | x :: xs, y :: ys => by simp [zipD, zipD_len xs ys]
theorem zipD_get : ∀ {xs ys : List D} {i : Nat} {d : D}, (zipD xs ys)[i]? = some d → ∃ x y, xs[i]? = some x ∧ ys[i]? = some y ∧ d = .tup [x, y]
  | [], ys, i, d, h => by simp [zipD] at h
  | x :: xs, [], i, d, h => by simp [zipD] at h
  | x :: xs, y :: ys, 0, d, h => by simp [zipD] at h; exact ⟨x, y, rfl, rfl, h.symm⟩
  | x :: xs, y :: ys, i + 1, d, h => by
    simp only [zipD, List.getElem?_cons_succ] at h
    obtain ⟨a, b, h1, h2, h3⟩ := zipD_get h
    exact ⟨a, b, by simpa using h1, by simpa using h2, h3⟩
theorem enumD_len : ∀ (k : Nat) (xs : List D), (enumD k xs).length = xs.length
  | _, [] => rfl
  | k, x :: xs => congrArg (· + 1) (enumD_len (k + 1) xs)
theorem enumD_get : ∀ {k : Nat} {xs : List D} {i : Nat} {d : D}, (enumD k xs)[i]? = some d → ∃ x, xs[i]? = some x ∧ d = .tup [.int ((k + i : Nat) : Int), x]
  | _, [], i, d, h => by simp [enumD] at h
  | k, x :: xs, 0, d, h => by simp [enumD] at h; exact ⟨x, rfl, h.symm⟩
  | k, x :: xs, i + 1, d, h => by
    simp only [enumD, List.getElem?_cons_succ] at h
    obtain ⟨a, h1, h2⟩ := enumD_get h
    exact ⟨a, by simpa using h1, by rw [h2, show k + 1 + i = k + (i + 1) by omega]⟩
/-- a pair just made -/
theorem pair_new {μ : List Addr} {H : Hp} {S : Sto} (s : StoR C μ H S) {p : Addr} {x y : V} {d e : D} (hp : H p = none) (rx : Rep C μ H x d) (ry : Rep C μ H y e) : Ext C.T μ H μ (upd H p (.tup [x, y])) ∧ Rep C μ (upd H p (.tup [x, y])) (.ref p) (.tup [d, e]) ∧ StoR C μ (upd H p (.tup [x, y])) S := by
  have n := s.notin hp
  have ex : Ext C.T μ H μ (upd H p (.tup [x, y])) := Ext.new hp n
  exact ⟨ex, .tup (.inl ⟨upd_same, n⟩) (.cons (rx.ext ex) (.cons (ry.ext ex) .nil)), s.new hp⟩
theorem it_zip {a b : Addr} {xs ys : List D} {g g' : List (Nat × List D)} (h : LstR C μ0 H0 a xs g) (h' : LstR C μ0 H0 b ys g') : ItR0 C μ0 H0 (Itz C.K a b) (zipD xs ys, g ++ g') := fun μ H S ex s hs => by
  obtain ⟨hs1, hs2⟩ := stands_app hs
  obtain ⟨vs, h1, r⟩ := h μ H S ex s hs1
  obtain ⟨ws, h2, r'⟩ := h' μ H S ex s hs2
  refine ⟨fun i hi => ⟨vs, ws, h1, h2, ?_⟩, fun i d hd => ?_⟩
  · rw [zipD_len] at hi
    rw [r.length, r'.length]
    omega
  · obtain ⟨x, y, hx, hy, rfl⟩ := zipD_get hd
    obtain ⟨v, hv, rv⟩ := r.get hx
    obtain ⟨w, hw, rw_⟩ := r'.get hy
    refine ⟨⟨vs, ws, v, w, h1, h2, hv, hw⟩, fun x' H' yy => ?_⟩
    obtain ⟨p, x1, y1, rfl, hp, rfl, e1, e2⟩ := yy
    have e1 := e1 vs h1
    have e2 := e2 ws h2
    rw [hv] at e1
    rw [hw] at e2
    cases e1; cases e2
    exact pair_new s hp rv rw_
theorem it_zipT {a b : Addr} {xs ys : List D} (h : TupR C μ0 H0 a xs) (h' : TupR C μ0 H0 b ys) : ItR0 C μ0 H0 (RZ.ItzT C.K a b) (zipD xs ys, []) := fun μ H S ex s hs => by
  obtain ⟨vs, h1, r⟩ := h μ H ex
  obtain ⟨ws, h2, r'⟩ := h' μ H ex
  refine ⟨fun i hi => ⟨vs, ws, h1, h2, ?_⟩, fun i d hd => ?_⟩
  · rw [zipD_len] at hi
    rw [r.length, r'.length]
    omega
  · obtain ⟨x, y, hx, hy, rfl⟩ := zipD_get hd
    obtain ⟨v, hv, rv⟩ := r.get hx
    obtain ⟨w, hw, rw_⟩ := r'.get hy
    refine ⟨⟨vs, ws, v, w, h1, h2, hv, hw⟩, fun x' H' yy => ?_⟩
    obtain ⟨p, x1, y1, rfl, hp, rfl, e1, e2⟩ := yy
    have e1 := e1 vs h1
    have e2 := e2 ws h2
    rw [hv] at e1
    rw [hw] at e2
    cases e1; cases e2
    exact pair_new s hp rv rw_
theorem it_enum {a : Addr} {xs : List D} {g : List (Nat × List D)} (h : LstR C μ0 H0 a xs g) : ItR0 C μ0 H0 (Ite C.K a) (enumD 0 xs, g) := fun μ H S ex s hs => by
  obtain ⟨vs, h1, r⟩ := h μ H S ex s hs
  refine ⟨fun i hi => ⟨vs, h1, by rw [enumD_len] at hi; rw [r.length]; exact hi⟩, fun i d hd => ?_⟩
  obtain ⟨x, hx, rfl⟩ := enumD_get hd
  obtain ⟨v, hv, rv⟩ := r.get hx
  refine ⟨⟨vs, v, h1, hv⟩, fun x' H' yy => ?_⟩
  obtain ⟨p, x1, rfl, hp, rfl, e1⟩ := yy
  have e1 := e1 vs h1
  rw [hv] at e1
  cases e1
  have q := pair_new s hp (.int ((0 + i : Nat) : Int)) rv
  rw [Nat.zero_add] at q ⊢
  exact q
theorem it_enumT {a : Addr} {xs : List D} (h : TupR C μ0 H0 a xs) : ItR0 C μ0 H0 (IteT C.K a) (enumD 0 xs, []) := fun μ H S ex s hs => by
  obtain ⟨vs, h1, r⟩ := h μ H ex
  refine ⟨fun i hi => ⟨vs, h1, by rw [enumD_len] at hi; rw [r.length]; exact hi⟩, fun i d hd => ?_⟩
  obtain ⟨x, hx, rfl⟩ := enumD_get hd
  obtain ⟨v, hv, rv⟩ := r.get hx
  refine ⟨⟨vs, v, h1, hv⟩, fun x' H' yy => ?_⟩
  obtain ⟨p, x1, rfl, hp, rfl, e1⟩ := yy
  have e1 := e1 vs h1
  rw [hv] at e1
  cases e1
  have q := pair_new s hp (.int ((0 + i : Nat) : Int)) rv
  rw [Nat.zero_add] at q ⊢
  exact q
end
section
variable {C : Cfg} {Ex : XK} {A : EA} {cx : Ct} {X : Cx} {c : Calls} {a b e tg : Expr} {es : List Expr} {f g : Env → Sto → R D} {fs : Env → Sto → R (List D)} {pos p : Pos} {x : Str}
/-- an expression walked -/
theorem i_lst (k : Ctx C A cx X) (ha : PE X a (tE C Ex f)) : PI X tg a (tIt C Ex fun δ S => (f δ S).bind lstR) := by
  refine PI.imp (pi_list ha) fun σ H Q ⟨μ, δ, S, st, p⟩ => ⟨μ, δ, S, st, p.bind.imp fun v H1 ⟨μ1, S1, d, e1, r1, s1, p1⟩ => ?_⟩
  unfold lstR at p1
  split at p1
  · rename_i xs e
    obtain ⟨l, rfl, hv, hl⟩ := lst_later s1 r1 e
    rw [k.hK]
    exact ⟨l, rfl, hv, p1.here (fun av hav => it_list (hl av hav)) s1⟩
  · exact p1.elim
theorem i_lstH (k : Ctx C A cx X) (ha : PE X a (tE C Ex f)) : L2H.PIH X tg a (tIt C Ex fun δ S => (f δ S).bind lstR) := by
  refine ⟨fun pins s σ H R I ⟨μ, δ, S, st, p⟩ => (pi_listH ha).run pins s σ H R I ⟨μ, δ, S, st, p.bind.imp fun v H1 ⟨μ1, S1, d, e1, r1, s1, p1⟩ => ?_⟩⟩
  unfold lstR at p1
  split at p1
  · rename_i xs e
    obtain ⟨l, rfl, hv, hl⟩ := lst_later s1 r1 e
    rw [k.hK]
    exact ⟨l, rfl, hv, p1.here (fun av hav => it_list (hl av hav)) s1⟩
  · exact p1.elim
theorem i_seq (k : Ctx C A cx X) (ha : PE X a (tE C Ex f)) : PI X tg a (tIt C Ex fun δ S => (f δ S).bind seqD) := by
  refine ⟨fun pins s σ H R I ⟨μ, δ, S, st, p⟩ => ?_⟩
  replace p : Pst C Ex μ H ((f δ S).bind seqD) (ItR C) R := p
  cases hf : f δ S with
  | bad => rw [hf] at p; exact p.elim
  | ex j z S1 =>
    rw [hf] at p
    exact (pi_list ha).run pins s σ H R I ⟨μ, δ, S, st, by rw [hf]; exact p⟩
  | ok d S1 =>
    rw [hf] at p
    have p1 : Pst C Ex μ H (seqD d S1) (ItR C) R := p
    by_cases ht : ∃ xs, d = .tup xs
    · obtain ⟨xs, rfl⟩ := ht
      refine (pi_tup ha).run pins s σ H R I ⟨μ, δ, S, st, ?_⟩
      rw [hf]
      intro v H1 μ1 e1 r1 s1
      obtain ⟨l, rfl, hv, hl⟩ := tup_later r1
      rw [k.hK]
      exact ⟨l, rfl, hv, p1.ok e1 (fun av hav => it_tup (hl av hav)) s1⟩
    · by_cases hz : ∃ z, d = .str z
      · obtain ⟨z, rfl⟩ := hz
        refine (pi_str ha).run pins s σ H R I ⟨μ, δ, S, st, ?_⟩
        rw [hf]
        intro v H1 μ1 e1 r1 s1
        cases r1
        exact ⟨z, rfl, p1.ok e1 (fun av hav => it_str z) s1⟩
      · have p2 : Pst C Ex μ H (lstR d S1) (ItR C) R := by
          cases d <;> first | exact p1 | exact absurd ⟨_, rfl⟩ ht | exact absurd ⟨_, rfl⟩ hz
        exact (i_lst k ha).run pins s σ H R I ⟨μ, δ, S, st, by dsimp only; rw [hf]; exact p2⟩
theorem i_rng1 (k : Ctx C A cx X) (hs : ∀ es env, starEach (b :: es) env = (false, eval b env) :: starEach es env) (hb : PE X b (tE C Ex g)) (hg : gloB A.sc "range" = true) (hG : A.G "range" = some .free) :
    PI X tg (.Call (.Name "range" p) [b] [] pos) (tIt C Ex fun δ S => (g δ S).bind fun y S1 => rngR (.int 0) y S1) := by
  refine PI.imp (pi_range1 (k.gl' hg) (k.gl _ _ hG) (pa_cons hb pa_nil (hs _ _)) (hs _ _)) fun σ H Q ⟨μ, δ, S, st, p⟩ => ⟨μ, δ, S, st, p.bind.imp fun v H1 ⟨μ1, S1, d, e1, r1, s1, p1⟩ => ?_⟩
  cases r1 with
  | int j =>
    have p3 : Pst C Ex μ1 H1 (if -(2 ^ 62) ≤ (0 : Int) ∧ (0 : Int) < 2 ^ 62 ∧ -(2 ^ 62) ≤ j ∧ j < 2 ^ 62 then .ok (rngList 0 (j - 0).toNat, []) S1 else .bad) (ItR C) Q := p1
    split at p3
    · rename_i hb
      rw [Int.sub_zero] at p3
      exact ⟨j, rfl, hb.2.2.1, hb.2.2.2, p3.here (fun av hav => it_rng _ _) s1⟩
    · exact p3.elim
  | _ => exact p1.elim
theorem i_rng2 (k : Ctx C A cx X) (hs : ∀ es env, starEach (a :: es) env = (false, eval a env) :: starEach es env) (hs2 : ∀ es env, starEach (b :: es) env = (false, eval b env) :: starEach es env) (ha : PE X a (tE C Ex f)) (hb : PE X b (tE C Ex g)) (hg : gloB A.sc "range" = true) (hG : A.G "range" = some .free) :
    PI X tg (.Call (.Name "range" p) [a, b] [] pos) (tIt C Ex fun δ S => (f δ S).bind fun x S1 => (g δ S1).bind fun y S2 => rngR x y S2) := by
  refine PI.imp (pi_range2 (k.gl' hg) (k.gl _ _ hG) (pa_cons ha (pa_cons hb pa_nil (hs2 _ _)) (hs _ _)) (by rw [hs, hs2]; rfl) (hs2 _ _)) fun σ H Q ⟨μ, δ, S, st, p⟩ => ⟨μ, δ, S, st, p.bind.imp fun v H1 ⟨μ1, S1, d, e1, r1, s1, p1⟩ => ?_⟩
  refine ⟨μ1, δ, S1, st.ext e1 s1, Pst.bind p1 |>.imp fun w H2 ⟨μ2, S2, d2, e2, r2, s2, p2⟩ => ?_⟩
  unfold rngR at p2
  split at p2
  · split at p2
    · rename_i hb
      cases r1; cases r2
      exact ⟨_, _, rfl, hb, p2.here (fun av hav => it_rng _ _) s2⟩
    · exact p2.elim
  · exact p2.elim
theorem i_zip (k : Ctx C A cx X) {es : List Expr} {kk : Nat} {tpos : Pos} (hs : ∀ es env, starEach (a :: es) env = (false, eval a env) :: starEach es env) (hs2 : ∀ es env, starEach (b :: es) env = (false, eval b env) :: starEach es env) (ha : PE X a (tE C Ex f)) (hb : PE X b (tE C Ex g)) (hg : gloB A.sc "zip" = true) (hG : A.G "zip" = some .free) :
    PI X (.Tuple es kk tpos) (.Call (.Name "zip" p) [a, b] [] pos) (tIt C Ex fun δ S => (f δ S).bind fun x S1 => (g δ S1).bind fun y S2 => zipR x y S2) := by
  refine PI.imp (RZ.pi_zipA (k.gl' hg) (k.gl _ _ hG) (pa_cons ha (pa_cons hb pa_nil (hs2 _ _)) (hs _ _)) (hs _ _) (by rw [backTo_any, hs2]; rfl)) fun σ H Q ⟨μ, δ, S, st, p⟩ => ⟨μ, δ, S, st, p.bind.imp fun v H1 ⟨μ1, S1, d, e1, r1, s1, p1⟩ => ?_⟩
  refine ⟨μ1, δ, S1, st.ext e1 s1, Pst.bind p1 |>.imp fun w H2 ⟨μ2, S2, d2, e2, r2, s2, p2⟩ => ?_⟩
  unfold zipR at p2
  rw [k.hK]
  split at p2
  · obtain ⟨l, rfl, ⟨vs, hv⟩, hl⟩ := tup_later (r1.ext e2)
    obtain ⟨m, rfl, ⟨ws, hw⟩, hm⟩ := tup_later r2
    exact ⟨l, m, vs, ws, rfl, .inr ⟨hv, hw, p2.here (fun av hav => it_zipT (hl av hav) (hm av hav)) s2⟩⟩
  · split at p2
    · rename_i xs ys e3 e4
      obtain ⟨l, rfl, ⟨vs, hv⟩, hl⟩ := lst_later s2 (r1.ext e2) e3
      obtain ⟨m, rfl, ⟨ws, hw⟩, hm⟩ := lst_later s2 r2 e4
      exact ⟨l, m, vs, ws, rfl, .inl ⟨hv, hw, p2.here (fun av hav => it_zip (hl av hav) (hm av hav)) s2⟩⟩
    · exact p2.elim
theorem i_enum (k : Ctx C A cx X) {es : List Expr} {kk : Nat} {tpos : Pos} (hs : ∀ es env, starEach (a :: es) env = (false, eval a env) :: starEach es env) (ha : PE X a (tE C Ex f)) (hg : gloB A.sc "enumerate" = true) (hG : A.G "enumerate" = some .free) :
    PI X (.Tuple es kk tpos) (.Call (.Name "enumerate" p) [a] [] pos) (tIt C Ex fun δ S => (f δ S).bind fun x S1 => enumR x S1) := by
  refine PI.imp (pi_enumA (k.gl' hg) (k.gl _ _ hG) (pa_cons ha pa_nil (hs _ _)) (hs _ _)) fun σ H Q ⟨μ, δ, S, st, p⟩ => ⟨μ, δ, S, st, p.bind.imp fun v H1 ⟨μ1, S1, d, e1, r1, s1, p1⟩ => ?_⟩
  unfold enumR at p1
  rw [k.hK]
  split at p1
  · obtain ⟨l, rfl, ⟨vs, hv⟩, hl⟩ := tup_later r1
    exact ⟨l, vs, rfl, .inr ⟨hv, p1.here (fun av hav => it_enumT (hl av hav)) s1⟩⟩
  · split at p1
    · rename_i xs e
      obtain ⟨l, rfl, ⟨vs, hv⟩, hl⟩ := lst_later s1 r1 e
      exact ⟨l, vs, rfl, .inl ⟨hv, p1.here (fun av hav => it_enum (hl av hav)) s1⟩⟩
    · exact p1.elim
end
end IT
end
section
set_option Elab.async false
set_option linter.all false
set_option maxRecDepth 100000
set_option autoImplicit false
namespace IT
open PySem PySem.Spec PyProof.Rows L2
open LamX (Tabs TabS CodeO)
/-! ### list comprehensions -/
abbrev Cfg.a (C : Cfg) (av : List Addr) : Cfg := { C with av := av }
theorem PE.ex {ι : Sort _} {X : Cx} {e : Expr} {t : ι → TE} (h : ∀ i, PE X e (t i)) : PE X e fun σ H Q => ∃ i, t i σ H Q := ⟨fun pins s σ H Q I ⟨i, q⟩ => (h i).run pins s σ H Q I q⟩
theorem PTs.ex {ι : Sort _} {X : Cx} {e : List Expr} {t : ι → TT} (h : ∀ i, PTs X e (t i)) : PTs X e fun σ H Q => ∃ i, t i σ H Q := ⟨fun pins s σ H Q I ⟨i, q⟩ => (h i).run pins s σ H Q I q⟩
theorem PG.ex {ι : Sort _} {X : Cx} {e : Expr} {t : ι → TG} (h : ∀ i, PG X e (t i)) : PG X e fun v σ H Q => ∃ i, t i v σ H Q := ⟨fun pins s σ H v u Q I r ⟨i, q⟩ => (h i).run pins s σ H v u Q I r q⟩
section
variable {C : Cfg}
/-- a list just made that no value tells of -/
theorem StoR.start {μ : List Addr} {H : Hp} {S : Sto} (h : StoR C μ H S) {D : Addr} (hD : H D = none) : StoR (C.a (D :: C.av)) μ (upd H D (.lst [])) S := by
  have ex : Ext C.T μ H μ (upd H D (.lst [])) := Ext.new hD (h.notin hD)
  have hav : ∀ a xs, H a = some (.lst xs) → a ∉ C.av → a ∉ (C.a (D :: C.av)).av := fun a xs ha na z => by
    rcases List.mem_cons.mp z with e | e
    · rw [e, hD] at ha; cases ha
    · exact na e
  refine ⟨h.len, h.nd, fun n o q => ?_, fun a ha => ?_⟩
  · obtain ⟨a, h1, h2⟩ := h.at_ n o q
    exact ⟨a, h1, ObR.ext (C := C.a (D :: C.av)) ex (ObR.to (C := C) (C' := C.a (D :: C.av)) rfl rfl hav h2) fun u z => by rw [upd_ne (ne_of_none z hD)]; exact z⟩
  · rcases List.mem_cons.mp ha with e | e
    · rw [e]; exact ⟨h.notin hD, [], upd_same⟩
    · exact AvR.ext ex h.avs a e
theorem avOk_new {H : Hp} {D : Addr} (hD : H D = none) : AvOk C H (D :: C.av) := fun a xs ha na z => by
  rcases List.mem_cons.mp z with e | e
  · rw [e, hD] at ha; cases ha
  · exact na e
theorem Ext.put {T : List (Addr × Str)} {μ μ' : List Addr} {H H' : Hp} {D : Addr} {xs ys : List V} (e : Ext T μ H μ' H') (hD : H D = none) (h' : H' D = some (.lst xs)) : Ext T μ H μ' (upd H' D (.lst ys)) :=
  ⟨e.pre, fun a o h n t => let ⟨q, m⟩ := e.old a o h n t; ⟨by rw [upd_ne (ne_of_none h hD)]; exact q, m⟩, fun t => Tabs.upd (e.tabs t) h'⟩
mutual
theorem Rep.join {μ : List Addr} {H : Hp} {p : Addr} {zs : List V} (hp : H p = some (.lst zs)) : ∀ {d : D} {v : V}, Rep (C.a (p :: C.av)) μ H v d → Rep C (μ ++ [p]) H v d
  | .non, _, h => by cases h; exact .non
  | .bl _, _, h => by cases h; exact .bl _
  | .int _, _, h => by cases h; exact .int _
  | .str _, _, h => by cases h; exact .str _
  | .ty _, _, h => by cases h; exact .ty _
  | .glo i, _, h => by cases h; exact Rep.glo (C := C) i
  | .ref _, _, h => by
    cases h with
    | ref h => exact .ref (by rw [List.getElem?_append_left (List.getElem?_eq_some_iff.mp h).1]; exact h)
  | .tup ds, _, h => by
    cases h with
    | tup h r =>
      refine .tup ?_ (RepL.join hp r)
      rcases h with ⟨h, n⟩ | h
      · exact .inl ⟨h, fun z => (List.mem_append.mp z).elim n fun z => ne_of h hp (by intro q; cases q) (List.mem_singleton.mp z)⟩
      · exact .inr h
  | .lst ds, _, h => by
    cases h with
    | lst h n v r =>
      refine .lst h (fun z => (List.mem_append.mp z).elim n fun z => v ?_) (fun z => v ?_) (RepL.join hp r)
      · rw [List.mem_singleton.mp z]; exact List.mem_cons_self
      · exact List.mem_cons_of_mem _ z
  | .scr _, _, h => by
    cases h with
    | scr h =>
      refine .scr ?_
      rcases h with ⟨o, h, n⟩ | h
      · exact .inl ⟨o, h, fun z => (List.mem_append.mp z).elim n fun z => ne_of h hp (by intro q; cases q) (List.mem_singleton.mp z)⟩
      · exact .inr h
theorem RepL.join {μ : List Addr} {H : Hp} {p : Addr} {zs : List V} (hp : H p = some (.lst zs)) : ∀ {ds : List D} {vs : List V}, RepL (C.a (p :: C.av)) μ H vs ds → RepL C (μ ++ [p]) H vs ds
  | [], _, h => by cases h; exact .nil
  | d :: ds, _, h => by
    cases h with
    | cons r t => exact .cons (Rep.join hp r) (RepL.join hp t)
end
theorem StoR.join {μ : List Addr} {H : Hp} {S : Sto} {p : Addr} {zs : List V} {ds : List D} (h : StoR (C.a (p :: C.av)) μ H S) (hp : H p = some (.lst zs)) (r : RepL (C.a (p :: C.av)) μ H zs ds) (nv : p ∉ C.av) : StoR C (μ ++ [p]) H (S ++ [.lst ds]) := by
  have hn : p ∉ μ := (h.avs p List.mem_cons_self).1
  refine ⟨by simp [h.len], List.nodup_append.mpr ⟨h.nd, by simp, fun a ha b hb z => ?_⟩, fun n o q => ?_, fun a ha => ?_⟩
  · rw [z, List.mem_singleton.mp hb] at ha
    exact hn ha
  · by_cases hl : n < S.length
    · rw [List.getElem?_append_left hl] at q
      obtain ⟨a, h1, h2⟩ := h.at_ n o q
      refine ⟨a, by rw [List.getElem?_append_left (List.getElem?_eq_some_iff.mp h1).1]; exact h1, ?_⟩
      cases o with
      | lst es =>
        obtain ⟨ws, h3, h4⟩ := h2
        exact ⟨ws, h3, h4.join hp⟩
      | dct _ => exact h2
    · rw [List.getElem?_append_right (by omega)] at q
      have hz : n - S.length = 0 := by
        rcases Nat.eq_zero_or_pos (n - S.length) with z | z
        · exact z
        · rw [List.getElem?_eq_none (by simp; omega)] at q; cases q
      rw [hz] at q
      cases q
      refine ⟨p, ?_, zs, hp, r.join hp⟩
      have hl := h.len
      rw [List.getElem?_append_right (by omega), show n - μ.length = 0 by omega]
      rfl
  · obtain ⟨n, xs, q⟩ := h.avs a (List.mem_cons_of_mem _ ha)
    exact ⟨fun z => (List.mem_append.mp z).elim n fun z => nv (by rw [← List.mem_singleton.mp z]; exact ha), xs, q⟩
def ttE (C : Cfg) : Option (Env → Sto → R Bool) → TT
  | none => tYes
  | some ft => fun σ H Q => ∃ av, tB' (C.a av) (fun _ _ _ => False) ft σ H Q
theorem lcl_ok {g : Sto → Bool} {f : D → Sto → R (Option D)} {x : D} {r acc : List D} {S : Sto} {Q : VK} {Ex : XK} {μ : List Addr} {H : Hp} {k : List D → Sto → R D} (p : Pst C Ex μ H ((lcl g f (x :: r) acc S).bind k) (Rep C) Q) :
    g S = true ∧ ((∃ S1, f x S = .ok none S1 ∧ Pst C Ex μ H ((lcl g f r acc S1).bind k) (Rep C) Q) ∨ ∃ d S1, f x S = .ok (some d) S1 ∧ acc.length < sizeLine ∧ Pst C Ex μ H ((lcl g f r (acc ++ [d]) S1).bind k) (Rep C) Q) := by
  rw [lcl] at p
  by_cases hg : g S = true
  · rw [if_pos hg] at p
    refine ⟨hg, ?_⟩
    cases hf : f x S with
    | bad => rw [hf] at p; exact p.elim
    | ex _ _ _ => rw [hf] at p; exact p.elim
    | ok o S1 =>
      rw [hf] at p
      cases o with
      | none => exact .inl ⟨S1, rfl, p⟩
      | some d =>
        dsimp only at p
        by_cases hl : acc.length < sizeLine
        · rw [if_pos hl] at p
          exact .inr ⟨d, S1, rfl, hl, p⟩
        · rw [if_neg hl] at p
          exact p.elim
  · rw [if_neg hg] at p
    exact p.elim
theorem lc_sound {Ex : XK} {fi : Env → Sto → R (List D × List (Nat × List D))} {m : Bool} {t : T} {tq : Option (Env → Sto → R Bool)} {fe : Env → Sto → R D} {own : List Nat} (hto : ∀ i ∈ T.slots t, i ∈ own) (hj : ∀ j v, C.J = some (j, v) → j ∉ own) {σ : L2.St} {H : Hp} {Q : VK}
    (h : tE C Ex (lcR fi m t tq fe own) σ H Q) : tLc (tIt C Ex fi) (fun v σ H Q => ∃ av, gT (C.a av) t v σ H Q) (ttE C tq) (fun σ H Q => ∃ av, tE (C.a av) (fun _ _ _ => False) fe σ H Q) own σ H Q := by
  obtain ⟨μ, δ, S, st, p⟩ := h
  unfold lcR at p
  refine ⟨μ, δ, S, st, p.bind.imp fun J H1 ⟨μ1, S1, q, e1, iR, s1, p1⟩ => ?_⟩
  intro D hD
  have nμ := s1.notin hD
  have nv := s1.noav hD
  have iR' := iR (D :: C.av) (avOk_new hD)
  have env1 : EnvR (C.a (D :: C.av)) μ1 H1 σ δ := EnvR.to (C := C) (C' := C.a (D :: C.av)) rfl rfl (avOk_new hD) (st.env.ext e1)
  refine ⟨fun i n H => ∃ μ' S' acc zs, Ext C.T μ1 H1 μ' H ∧ H D = some (.lst zs) ∧ RepL (C.a (D :: C.av)) μ' H zs acc ∧ StoR (C.a (D :: C.av)) μ' H S' ∧ n = q.1.length - i ∧
    Pst C Ex μ1 H1 ((lcl (stands q.2) (turnF t tq fe own δ) (q.1.drop i) acc S').bind (lcF m)) (Rep C) Q, ⟨_, μ1, S1, [], [], Ext.new hD nμ, upd_same, .nil, s1.start hD, rfl, p1⟩, ?_⟩
  rintro i n H ⟨μ', S', acc, zs, ex, hz, rz, s', rfl, p'⟩
  cases hd : q.1.drop i with
  | nil =>
    rw [hd, lcl] at p'
    by_cases hg : stands q.2 S' = true
    · rw [if_pos hg] at p'
      have hi : q.1.length ≤ i := by
        have := congrArg List.length hd
        simp at this
        omega
      refine .inl ⟨(iR' μ' H S' ex s' hg).1 i hi, ?_⟩
      have p2 : Pst C Ex μ1 H1 (lcF m acc S') (Rep C) Q := p'
      unfold lcF at p2
      have sC : StoR C μ' H S' := StoR.to (C := C.a (D :: C.av)) (C' := C) rfl rfl (fun a xs _ z => fun y => z (List.mem_cons_of_mem _ y)) (fun a ha => s'.avs a (List.mem_cons_of_mem _ ha)) s'
      cases m with
      | false =>
        exact p2.ok ex (.lst hz (s'.avs D List.mem_cons_self).1 nv (RepL.to (C := C.a (D :: C.av)) (C' := C) rfl rfl (fun a xs _ z => fun y => z (List.mem_cons_of_mem _ y)) rz)) sC
      | true =>
        obtain ⟨⟨ν, eν⟩, eo, et⟩ := ex
        refine p2.ok (μ' := μ' ++ [D]) ⟨⟨ν ++ [D], by rw [eν, List.append_assoc]⟩, fun a o ha na nt => ?_, et⟩ (.ref ?_) (s'.join hz rz nv)
        · obtain ⟨h2, n2⟩ := eo a o ha na nt
          exact ⟨h2, fun z => (List.mem_append.mp z).elim n2 fun z => ne_of_none ha hD (List.mem_singleton.mp z)⟩
        · rw [← s'.len, List.getElem?_append_right (Nat.le_refl _), Nat.sub_self]
          rfl
    · rw [if_neg hg] at p'
      exact p'.elim
  | cons d r =>
    rw [hd] at p'
    have hlt : i < q.1.length := by
      have := congrArg List.length hd
      simp at this
      omega
    have hx : q.1[i]? = some d := by
      have := List.drop_eq_getElem_cons hlt
      rw [hd] at this
      rw [List.getElem?_eq_getElem hlt]
      exact congrArg some (List.cons.inj this).1.symm
    have hr : q.1.drop (i + 1) = r := by
      have := List.drop_eq_getElem_cons hlt
      rw [hd] at this
      exact (List.cons.inj this).2.symm
    obtain ⟨hg, ht⟩ := lcl_ok p'
    obtain ⟨go, yl⟩ := (iR' μ' H S' ex s' hg).2 i d hx
    refine .inr ⟨go, fun H' => ∃ μ' S' acc zs, Ext C.T μ1 H1 μ' H' ∧ H' D = some (.lst zs) ∧ RepL (C.a (D :: C.av)) μ' H' zs acc ∧ StoR (C.a (D :: C.av)) μ' H' S' ∧
      Pst C Ex μ1 H1 ((lcl (stands q.2) (turnF t tq fe own δ) (q.1.drop (i + 1)) acc S').bind (lcF m)) (Rep C) Q, fun H' ⟨a1, a2, a3, a4, b1, b2, b3, b4, b5⟩ => ⟨_, by omega, a1, a2, a3, a4, b1, b2, b3, b4, rfl, b5⟩, fun x H' y => ?_⟩
    obtain ⟨ey, ry, sy⟩ := yl x H' y
    have ex' := ex.trans ey
    have hz' : H' D = some (.lst zs) := (ey.old D _ hz (s'.avs D List.mem_cons_self).1 (fun ps z => by cases z)).1
    have st' : Stt (C.a (D :: C.av)) μ' H' S' (wipe σ own) (wipeD δ own) := ⟨(EnvR.ext (C := C.a (D :: C.av)) ex' env1).wipe own, sy, ex'.tabs (e1.tabs st.tab), fun j v e => by
      have := st.inv j v e
      rw [wipe_get, if_neg (hj j v e)]
      exact this⟩
    -- what the turn makes
    have fin : ∀ {δ' : Env} {σ2 : L2.St} {S3 : Sto} {μ3 : List Addr} {H3 : Hp}, Ext C.T μ' H' μ3 H3 → StoR (C.a (D :: C.av)) μ3 H3 S3 → Stt (C.a (D :: C.av)) μ3 H3 S3 σ2 δ' →
        (∃ d' S4, fe δ' S3 = .ok d' S4 ∧ acc.length < sizeLine ∧ Pst C Ex μ1 H1 ((lcl (stands q.2) (turnF t tq fe own δ) (q.1.drop (i + 1)) (acc ++ [d']) S4).bind (lcF m)) (Rep C) Q) →
        ∃ av, tE (C.a av) (fun _ _ _ => False) fe σ2 H3 fun y H4 => ∃ acc, H4 D = some (.lst acc) ∧ acc.length < sizeLine ∧ (∃ μ' S' acc' zs, Ext C.T μ1 H1 μ' (upd H4 D (.lst (acc ++ [y]))) ∧ (upd H4 D (.lst (acc ++ [y]))) D = some (.lst zs) ∧ RepL (C.a (D :: C.av)) μ' (upd H4 D (.lst (acc ++ [y]))) zs acc' ∧ StoR (C.a (D :: C.av)) μ' (upd H4 D (.lst (acc ++ [y]))) S' ∧
          Pst C Ex μ1 H1 ((lcl (stands q.2) (turnF t tq fe own δ) (q.1.drop (i + 1)) acc' S').bind (lcF m)) (Rep C) Q) := fun {δ' σ2 S3 μ3 H3} e3 s3 st3 ⟨d', S4, hf, hl, pp⟩ => by
      refine ⟨D :: C.av, μ3, δ', S3, st3, ?_⟩
      rw [hf]
      intro y H4 μ4 e4 r4 s4
      have hz4 : H4 D = some (.lst zs) := ((e3.trans e4).old D _ hz' (sy.avs D List.mem_cons_self).1 (fun ps z => by cases z)).1
      have rz4 : RepL (C.a (D :: C.av)) μ4 H4 zs acc := RepL.ext (ey.trans (e3.trans e4)) rz
      refine ⟨zs, hz4, by rw [rz4.length]; exact hl, μ4, S4, acc ++ [d'], zs ++ [y], Ext.put (ex'.trans (e3.trans e4)) hD hz4, upd_same, ?_, StoR.put s4 hz4 List.mem_cons_self, pp⟩
      exact RepL.put hz4 List.mem_cons_self (rz4.append (.one r4))
    have tn : ∃ δ', T.put S' t d (wipeD δ own) = some δ' ∧ turnG tq fe δ' S' = turnF t tq fe own δ d S' := by
      cases hp : T.put S' t d (wipeD δ own) with
      | some δ' => exact ⟨δ', rfl, by unfold turnF; rw [hp]⟩
      | none =>
        exfalso
        have : turnF t tq fe own δ d S' = .bad := by unfold turnF; rw [hp]
        rcases ht with ⟨_, z, _⟩ | ⟨_, _, z, _⟩ <;> rw [this] at z <;> cases z
    obtain ⟨δ', hp, hturn⟩ := tn
    unfold turnG at hturn
    refine ⟨D :: C.av, μ', wipeD δ own, S', d, δ', st', ry, hp, fun σ' stn w => ⟨(w own hto).trans ?_, ?_⟩⟩
    · apply List.ext_getElem?
      intro j
      rw [wipe_get, wipe_get, wipe_length]
      by_cases hj' : j ∈ own
      · rw [if_pos hj', if_pos hj']
      · rw [if_neg hj', if_neg hj']
        try rw [wipe_get, if_neg hj']
    · cases tq with
      | none =>
        unfold ttE tYes
        refine iteT ?_
        have hf : ∃ d' S4, fe δ' S' = .ok d' S4 ∧ turnF t none fe own δ d S' = .ok (some d') S4 := by
          cases hfe : fe δ' S' with
          | ok a b => exact ⟨a, b, rfl, by rw [← hturn]; simp only [hfe, R.bind]⟩
          | ex _ _ _ =>
            exfalso
            simp only [hfe, R.bind] at hturn
            rcases ht with ⟨_, z, _⟩ | ⟨_, _, z, _⟩ <;> rw [← hturn] at z <;> cases z
          | bad =>
            exfalso
            simp only [hfe, R.bind] at hturn
            rcases ht with ⟨_, z, _⟩ | ⟨_, _, z, _⟩ <;> rw [← hturn] at z <;> cases z
        obtain ⟨d', S4, hf1, hf2⟩ := hf
        refine fin (Ext.refl _ _ _) sy stn ⟨d', S4, hf1, ?_⟩
        rcases ht with ⟨_, z, _⟩ | ⟨d2, S5, z, hl, pp⟩
        · rw [hf2] at z; cases z
        · rw [hf2] at z
          cases z
          rw [hr]
          exact ⟨hl, pp⟩
      | some ft =>
        refine ⟨D :: C.av, μ', δ', S', stn, ?_⟩
        dsimp only at hturn
        cases hft : ft δ' S' with
        | ex _ _ _ =>
          exfalso
          simp only [hft, R.bind] at hturn
          rcases ht with ⟨_, z, _⟩ | ⟨_, _, z, _⟩ <;> rw [← hturn] at z <;> cases z
        | bad =>
          exfalso
          simp only [hft, R.bind] at hturn
          rcases ht with ⟨_, z, _⟩ | ⟨_, _, z, _⟩ <;> rw [← hturn] at z <;> cases z
        | ok k S3 =>
          simp only [hft, R.bind] at hturn
          intro b H3 μ3 e3 rb s3
          have rb' : b = k := rb
          subst rb'
          cases b with
          | false =>
            refine iteF ?_
            have hf2 : turnF t (some ft) fe own δ d S' = .ok none S3 := hturn.symm
            rcases ht with ⟨S5, z, pp⟩ | ⟨_, _, z, _⟩
            · rw [hf2] at z
              cases z
              have hz3 : H3 D = some (.lst zs) := (e3.old D _ hz' (sy.avs D List.mem_cons_self).1 (fun ps z => by cases z)).1
              refine ⟨μ3, S3, acc, zs, ex'.trans e3, hz3, RepL.ext (ey.trans e3) rz, s3, by rw [hr]; exact pp⟩
            · rw [hf2] at z; cases z
          | true =>
            refine iteT ?_
            have hf : ∃ d' S4, fe δ' S3 = .ok d' S4 ∧ turnF t (some ft) fe own δ d S' = .ok (some d') S4 := by
              have hturn' : (fe δ' S3).bind (fun d S4 => R.ok (some d) S4) = turnF t (some ft) fe own δ d S' := hturn
              cases hfe : fe δ' S3 with
              | ok a b => exact ⟨a, b, rfl, by rw [← hturn', hfe]; rfl⟩
              | ex _ _ _ =>
                exfalso
                rw [hfe] at hturn'
                rcases ht with ⟨_, z, _⟩ | ⟨_, _, z, _⟩ <;> rw [← hturn'] at z <;> cases z
              | bad =>
                exfalso
                rw [hfe] at hturn'
                rcases ht with ⟨_, z, _⟩ | ⟨_, _, z, _⟩ <;> rw [← hturn'] at z <;> cases z
            obtain ⟨d', S4, hf1, hf2⟩ := hf
            refine fin e3 s3 (stn.ext e3 s3) ⟨d', S4, hf1, ?_⟩
            rcases ht with ⟨_, z, _⟩ | ⟨d2, S5, z, hl, pp⟩
            · rw [hf2] at z; cases z
            · rw [hf2] at z
              cases z
              rw [hr]
              exact ⟨hl, pp⟩
end
end IT
end
section
set_option Elab.async false
set_option linter.all false
set_option maxRecDepth 100000
set_option autoImplicit false
namespace IT
open PySem PySem.Spec PyProof.Rows L2 HT
section
variable {C : Cfg} {Ex : XK} {A : EA} {cx : Ct} {X : Cx} {a : Expr} {f : Env → Sto → R D} {pos : Pos}
theorem s_rev (k : Ctx C A cx X) {kk : Nat} {p1 p2 p3 : Pos} (ha : PE X a (tE C Ex f)) : PE X (.Subscript a (.Slice none none (some (.UnaryOp .USub (.Constant (.int 1) kk p1) p2)) p3) pos) (tE C Ex fun δ S => (f δ S).bind fun x S1 => revd x S1) := by
  refine ⟨fun pins s σ H Q I ⟨μ, δ, S, st, p⟩ => ?_⟩
  replace p : Pst C Ex μ H ((f δ S).bind fun x S1 => revd x S1) (Rep C) Q := p
  cases hf : f δ S with
  | bad => rw [hf] at p; exact p.elim
  | ex j z S1 =>
    rw [hf] at p
    exact (pe_revL ha).run pins s σ H Q I ⟨μ, δ, S, st, by rw [hf]; exact p⟩
  | ok d S1 =>
    rw [hf] at p
    have p1 : Pst C Ex μ H (revd d S1) (Rep C) Q := p
    by_cases ht : ∃ xs, d = .tup xs
    · obtain ⟨xs, rfl⟩ := ht
      refine (pe_revT ha).run pins s σ H Q I ⟨μ, δ, S, st, ?_⟩
      rw [hf]
      intro v H1 μ1 e1 r1 s1
      obtain ⟨l, ys, rfl, hv, rl⟩ := tup_at r1
      rw [k.hK]
      exact ⟨l, ys, rfl, hv.seq, fun q hq => new_tup (p1.mono e1) s1 rl.reverse hq⟩
    · refine (pe_revL ha).run pins s σ H Q I ⟨μ, δ, S, st, ?_⟩
      rw [hf]
      intro v H1 μ1 e1 r1 s1
      have p2 : Pst C Ex μ H (match listOf S1 d with
          | some xs => .ok (.lst xs.reverse) S1
          | none => .bad) (Rep C) Q := by
        cases d <;> first | exact p1 | exact absurd ⟨_, rfl⟩ ht
      cases e : listOf S1 d with
      | none => rw [e] at p2; exact p2.elim
      | some xs =>
        rw [e] at p2
        obtain ⟨l, ys, rfl, hv, rl⟩ := list_at s1 r1 e
        exact ⟨l, ys, rfl, SqL.of hv, fun q hq => new_lst (p2.mono e1) s1 rl.reverse hq⟩
end
end IT
end
section
set_option Elab.async false
set_option linter.all false
set_option maxRecDepth 100000
set_option autoImplicit false
namespace IT
open PySem PySem.Spec PyProof.Rows L2
open LamX (Tabs TabS CodeO lamSB lamS_by lamCx lamEnv TabB GivesTo tLam)
/-! ### all that a context tells -/
def LamK (C : Cfg) (X : Cx) (c0 : Calls) (k : Nat) : Prop := ∀ J av i, c0.kn i = true → PySem.W.keepIn X.K (.ref (C.ga i)) = true ∧
  ∃ (fd : FuncData) (ps : List Str), FnOk X.prog X.w X.K X.mg X.base (L2N.CX X.prog X.w) k (C.ga i) fd ps (spOf { C with J := J, av := av } c0 i) ∧ Binds X.K fd ps []
def GivOk (C : Cfg) (X : Cx) (c c0 : Calls) (G : Nat → Nat → Option Bool) (x : Str) (i : Nat) : Prop := ∃ (k : Nat) (pg : Arguments) (bg : List Stmt) (sg : Scope) (dV kV doc pm cdv ct oc : Value) (an od : Option Addr) (osl : Array (Option Value)) (Ng : List Str) (a : Str),
  Room (k + 2) X.A ∧ LamK C X c0 k ∧ PySem.W.keepIn X.K (.ref (C.ga i)) = true ∧ X.K.lookup (C.ga i) = some ⟨oc, od, .func (PySem.W.fnOf x x pg bg sg dV kV doc pm an cdv ct), osl⟩ ∧ PySem.W.codeIn X.K cdv x = true ∧
  L2.Binds X.K (PySem.W.fnOf x x pg bg sg dV kV doc pm an cdv ct) [a] [] ∧ FnScope Ng [a] sg ∧ Ng[0]? = some a ∧ Vis sg a ∧ (a == ("__debug__" : Str)) = false ∧ (a == ("__classdict__" : Str)) = false ∧
  ∀ av, ∃ TT, (∀ q, GivesN X Ng x sg (C.ga i) cdv bg a q TT) ∧ ∀ b Ex σ H Q, tE (C.a av) Ex (fun δ S => c.cl i b δ S) σ H Q → tLam C.T TT (fun E => tE (C.a av) E fun δ S => ev c0 G AF {} b δ S) σ H Q
structure CtxL (C : Cfg) (X : Cx) (c c0 : Calls) (G : Nat → Nat → Option Bool) (A : EA) (cx : Ct) : Prop where
  tb : A.lam = true → ∃ cd P, TabB X.base X.mg cd P ∧ X.env.code = .ref cd ∧ (P, X.env.qual ++ "<lambda>") ∈ C.T ∧ ∀ p ∈ C.T, p.1 = P → p.2 = X.env.qual ++ "<lambda>"
  hl : cx.h.isNone = false → A.lam = false
  gv : A.lam = true → ∀ x i, A.G x = some (.fn i) → (∀ b δ S, c.cl i b δ S = .bad) ∨ GivOk C X c c0 G x i
structure AllC (C : Cfg) (A : EA) (cx : Ct) (X : Cx) (Ex : XK) (c c0 : Calls) (G : Nat → Nat → Option Bool) : Prop where
  k : Ctx C A cx X
  kc : CtxC C X Ex c cx
  kl : CtxL C X c c0 G A cx
  ke : A.hu = true → ∀ j x, cx.h = some (j, x) → ∀ k b, G j k = some b → ∃ i v, C.J = some (i, v) ∧ CallR X (.builtin "isinstance") (fun vs H Q => vs = [v, .ref (C.ga k)] ∧ Q (.bl b) H)
theorem xe_false {X : Cx} : ∃ W : WX, L2N.Takes X W ∧ ∀ cls d H σ, σ.length = X.N.length → (fun _ _ _ => False : XK) cls d H → W cls d σ H := ⟨fun _ _ _ _ => False, IT.takes0, fun _ _ _ _ _ h => h⟩
theorem relS_loc {sc scope : Scope} {x : Str} (h : locB scope x = true) : (relS scope sc).names.lookup x = scope.names.lookup x := by
  rcases locB_ok h with e | e
  · rw [e]; exact lookup_relS_keep (by intro z; cases z) e
  · rw [e]; exact lookup_relS_keep (by intro z; cases z) e
section
variable {C : Cfg} {A : EA} {cx : Ct} {X : Cx} {Ex : XK} {c c0 : Calls} {G : Nat → Nat → Option Bool}
/-- a comprehension's block -/
theorem AllC.blk (K : AllC C A cx X Ex c c0 G) (hh : cx.h.isNone = true) (scope : Scope) (av : List Addr) (s : Shared) (H : Hp) (D : Addr) (cl : List (Str × Addr)) (fp : List Addr) :
    AllC (C.a av) (A.blk scope) cx (X.blk s H scope (compEnvC scope cl D X.env) fp) (fun _ _ _ => False) c c0 G where
  k := {
    jj := K.k.jj
    hK := K.k.hK
    hN := K.k.hN
    nd := K.k.nd
    hs := by
      show relS scope X.env.scope = relS scope A.sc
      rw [K.k.hs]
    st := fun x h => by
      have e := relS_loc (sc := X.env.scope) (show locB scope x = true from h)
      have l := locB_ok (show locB scope x = true from h)
      refine ⟨?_, ?_⟩
      · show (relS scope X.env.scope).names.lookup x = some .local ∨ (relS scope X.env.scope).names.lookup x = some .cell
        rw [e]; exact l
      · rcases l with l | l
        · exact .inr (by show (relS scope X.env.scope).names.lookup x = _; rw [e]; exact l)
        · exact .inl (by show (scope.names.lookup x == some .cell) = true; rw [l]; rfl)
    gl := fun x g h => by
      have q := K.k.gl x g h
      cases g with
      | con d => exact q
      | _ => exact q
    un := K.k.un
    cal := fun h => K.k.cal h
    ht := fun h => absurd (h.symm.trans hh) Bool.false_ne_true }
  kc := ⟨fun _ => xe_false, fun h J av i hk => let ⟨kp, j, fd, ps, r, f, b⟩ := K.kc.fn h J av i hk; ⟨kp, j, fd, ps, r, f, b⟩⟩
  kl := ⟨K.kl.tb, fun h => K.kl.hl h, fun h x i hx => (K.kl.gv h x i hx).imp id fun ⟨k, pg, bg, sg, dV, kV, doc, pm, cdv, ct, oc, an, od, osl, Ng, a, h1, h2, h3, h4, h5, h6, h7, h8, h9, h10, h11, h12⟩ => ⟨k, pg, bg, sg, dV, kV, doc, pm, cdv, ct, oc, an, od, osl, Ng, a, h1, h2, h3, h4, h5, h6, h7, h8, h9, h10, h11, h12⟩⟩
  ke := fun h => absurd (show false = true from h) Bool.false_ne_true
theorem AllC.blkH (K : AllC C A cx X Ex c c0 G) (hh : cx.h.isNone = false) {p : Addr × Obj} (hp : L2H.Hot1 X.A p) (hl : A.lam = false) (scope : Scope) (av : List Addr) (s : Shared) (H : Hp) (D : Addr) (cl : List (Str × Addr)) (fp : List Addr) :
    AllC (C.a av) (A.blk scope) cx (IT.blkH X p s H scope (compEnvC scope cl D X.env) fp) (fun _ _ _ => False) c c0 G where
  k := {
    jj := K.k.jj
    hK := K.k.hK
    hN := K.k.hN
    nd := K.k.nd
    hs := by
      show relS scope X.env.scope = relS scope A.sc
      rw [K.k.hs]
    st := fun x h => by
      have e := relS_loc (sc := X.env.scope) (show locB scope x = true from h)
      have l := locB_ok (show locB scope x = true from h)
      refine ⟨?_, ?_⟩
      · show (relS scope X.env.scope).names.lookup x = some .local ∨ (relS scope X.env.scope).names.lookup x = some .cell
        rw [e]; exact l
      · rcases l with l | l
        · exact .inr (by show (relS scope X.env.scope).names.lookup x = _; rw [e]; exact l)
        · exact .inl (by show (scope.names.lookup x == some .cell) = true; rw [l]; rfl)
    gl := fun x g h => by
      have q := K.k.gl x g h
      cases g with
      | con d => exact q
      | _ => exact q
    un := K.k.un
    cal := fun h => absurd (hh.symm.trans h) Bool.false_ne_true
    ht := fun h => ⟨p, hp, List.mem_singleton.mpr rfl⟩ }
  kc := ⟨fun h => absurd (hh.symm.trans h) Bool.false_ne_true, fun h => absurd (hh.symm.trans h) Bool.false_ne_true⟩
  kl := ⟨fun h => absurd (hl.symm.trans h) Bool.false_ne_true, fun _ => hl, fun h => absurd (hl.symm.trans h) Bool.false_ne_true⟩
  ke := fun h => absurd (show false = true from h) Bool.false_ne_true
/-- a lambda's body -/
theorem AllC.lam (K : AllC C A cx X Ex c c0 G) (hx : A.hx = none) {k : Nat} (L : LamK C X c0 k) (scope : Scope) (av : List Addr) (A' : Around) (outer : List PySem.Env) (s : Shared) (H : Hp) (E : XK) (f c' : Addr) (hr : Room k (A'.deeper (lamEnv X scope s.heap.objs.size f c'))) :
    AllC (C.a av) (A.lamA scope) {} (lamN X A' outer s H E scope f c') E c0 c0 G where
  k := {
    jj := fun i v h => by
      obtain ⟨nm, h1, _⟩ := K.k.jj i v h
      rw [hx] at h1
      cases h1
    hK := K.k.hK
    hN := K.k.hN
    nd := K.k.nd
    hs := rfl
    st := fun x h => by cases h
    gl := fun x g h => by
      have q := K.k.gl x g h
      cases g with
      | con d => exact q
      | _ => exact q
    un := by
      have := hr.un
      show (A'.deeper (lamEnv X scope s.heap.objs.size f c')).units + 65 < cLine
      omega
    cal := fun _ => rfl
    ht := fun h => by cases h }
  kc := ⟨fun _ => ⟨fun cls d _ H => E cls d H, L2N.takes_of (X := lamN X A' outer s H E scope f c') rfl rfl rfl rfl, fun _ _ _ _ _ h => h⟩, fun _ J av i hk => let ⟨kp, fd, ps, f, b⟩ := L J av i hk; ⟨kp, k, fd, ps, hr, f, b⟩⟩
  kl := ⟨fun h => (by cases h), fun _ => rfl, fun h => (by cases h)⟩
  ke := fun h => (by cases h)
end
end IT
end
section
set_option Elab.async false
set_option linter.all false
set_option maxRecDepth 100000
set_option autoImplicit false
namespace IT
open PySem PySem.Spec PyProof.Rows L2
open LamX (Tabs TabS CodeO lamSB lamS_by lamCx lamEnv TabB GivesTo tLam)
section
variable {X : Cx} {e : Expr}
theorem pt_no {t : TT} (h : ∀ σ H Q, ¬ t σ H Q) : PT X e t := ⟨fun _ _ σ H Q _ q => (h σ H Q q).elim⟩
theorem no_bad {α β : Type} {C : Cfg} {Ex : XK} {f : Env → Sto → R α} {rel : List Addr → Hp → β → α → Prop} (h : ∀ δ S, f δ S = .bad) (σ : L2.St) (H : Hp) (Q : β → Hp → Prop) : ¬ tI C Ex f rel σ H Q := fun ⟨μ, δ, S, _, p⟩ => by
  rw [h] at p
  exact p
/-- the forms whose tests are not their values' truth -/
def plainC : E → Bool
  | .and _ _ => false
  | .or _ _ => false
  | .nt _ => false
  | .ite _ _ _ => false
  | _ => true
theorem tests_plain {f : E → Sto → R D} : ∀ {c : E}, plainC c = true → ∀ (m : Nat) (S : Sto), tests f (m + 1) c S = (f c S).bind fun d S1 => tst S1 d := fun {c} h m S => by
  cases c <;> first | cases h; done | rfl
def plainE : Expr → Bool
  | .BoolOp _ _ _ => false
  | .UnaryOp .Not _ _ => false
  | .IfExp _ _ _ _ => false
  | .Compare _ _ _ _ => false
  | _ => true
theorem isTrue_plainE {e : Expr} (h : plainE e = true) (env : PySem.Env) (whole : Sem Value) : PySem.isTrue e env whole = (do let v ← whole; standAt e.pos; holding [v] (truthy v)) := by
  unfold PySem.isTrue
  split <;> first | rfl | cases h
theorem erName_plain {A : EA} {x : Str} {c : E} (h : erName A x = some c) : plainC c = true := by
  unfold erName at h
  repeat' split at h
  all_goals first
    | (cases h; done)
    | (cases h; rfl)
    | (simp only [Option.map_eq_some_iff] at h; obtain ⟨_, _, rfl⟩ := h; rfl)
theorem erCall_plain {A : EA} {f : Expr → Option E} {mu : Bool} {x : Str} {es : List Expr} {c : E} (h : erCall A f mu x es = some c) : plainC c = true := by
  unfold erCall at h
  repeat' split at h
  all_goals first
    | (cases h; done)
    | (cases h; rfl)
    | (simp only [Option.map_eq_some_iff] at h; obtain ⟨_, _, rfl⟩ := h; rfl)
theorem er_plainC {A : EA} {n : Nat} {e : Expr} {c : E} (h : er A (n + 1) e = some c) (hp : plainE e = true) : plainC c = true := by
  cases e
  case Name => exact erName_plain h
  all_goals unfold er at h
  all_goals repeat' split at h
  all_goals first
    | (cases h; done)
    | (cases hp; done)
    | (cases h; rfl)
    | exact erCall_plain h
    | (simp only [Option.map_eq_some_iff] at h; obtain ⟨_, _, rfl⟩ := h; rfl)
    | (simp only [Option.map_eq_some_iff] at h; obtain ⟨_, _, rfl⟩ := h; split <;> rfl)
variable {C : Cfg} {Ex : XK} {A : EA} {cx : Ct} {a b : Expr} {f g h : Env → Sto → R D} {pos : Pos}
theorem s_chainT {c : Expr} {op op' : CmpOp} (k : Ctx C A cx X) (hm : behindInMarks op b = false) (hm' : behindInMarks op' c = false) (ha : PE X a (tE C Ex f)) (hb : PE X b (tE C Ex g)) (hc : PE X c (tE C Ex h)) :
    PT X (.Compare a [op, op'] [b, c] pos) (tB' C Ex fun δ S => ((f δ S).bind fun x S1 => (g δ S1).bind fun y S2 => match cmpop (erCmp op) x y S2 with
      | some true => (h δ S2).bind fun z S3 => cmpR (erCmp op') y z S3
      | some false => .ok (.bl false) S2
      | none => .bad).bind fun d S3 => tst S3 d) := by
  have ok := cmpop_ok (X := X) (C := C) (E := Ex) k.hK (by have := k.un; omega) (erCmp op)
  rw [cop_er] at ok
  have ok' := cmpop_ok (X := X) (C := C) (E := Ex) k.hK (by have := k.un; omega) (erCmp op')
  rw [cop_er] at ok'
  refine PT.imp (pt_chain ok ok' ha hb hc (show lastMarks [op, op'] [b, c] = false from hm')) fun σ H Q ⟨μ, δ, S, st, p⟩ => ?_
  try dsimp only at p
  rw [R.bind_assoc] at p
  refine ⟨μ, δ, S, st, p.bind.imp fun x H1 ⟨μ1, S1, d1, e1, r1, s1, p1⟩ => ?_⟩
  try dsimp only at p1
  rw [R.bind_assoc] at p1
  refine ⟨μ1, δ, S1, st.ext e1 s1, p1.bind.imp fun y H2 ⟨μ2, S2, d2, e2, r2, s2, p2⟩ => ?_⟩
  refine ⟨μ2, S2, d1, d2, r1.ext e2, r2, s2, e2.tabs (e1.tabs st.tab), ?_⟩
  unfold cmpR
  cases q : cmpop (erCmp op) d1 d2 S2 with
  | none => rw [q] at p2; exact p2.elim
  | some t =>
    rw [q] at p2
    intro v H3 μ3 e3 r s3
    cases r
    refine ⟨t, rfl, ?_⟩
    cases t with
    | true =>
      have p3 : Pst C Ex μ2 H2 (((h δ S2).bind fun z S3 => cmpR (erCmp op') d2 z S3).bind fun d S3 => tst S3 d) (fun _ _ b a => b = a) Q := p2
      rw [R.bind_assoc] at p3
      refine iteT ⟨μ3, δ, S2, (st.ext (e1.trans (e2.trans e3)) s3), (Pst.bind (p3.mono e3)).imp fun z H4 ⟨μ4, S4, d4, e4, r4, s4, p4⟩ => ?_⟩
      refine ⟨μ4, S4, d2, d4, (r2.ext e3).ext e4, r4, s4, e4.tabs (e3.tabs (e2.tabs (e1.tabs st.tab))), ?_⟩
      unfold cmpR at p4
      dsimp only
      cases q2 : cmpop (erCmp op') d2 d4 S4 with
      | none => rw [q2] at p4; exact p4.elim
      | some t =>
        rw [q2] at p4
        intro v H' μ' e r s
        cases r
        exact ⟨t, rfl, p4 t H' μ' e rfl s⟩
    | false =>
      have p3 : Pst C Ex μ2 H2 (.ok false S2) (fun _ _ b a => b = a) Q := p2
      exact iteF ⟨false, rfl, p3.ok e3 rfl s3⟩
end
end IT
end
section
set_option Elab.async false
set_option linter.all false
set_option maxRecDepth 100000
set_option autoImplicit false
namespace IT
open PySem PySem.Spec PyProof.Rows L2
open LamX (Tabs TabS CodeO lamSB lamS_by lamCx lamEnv TabB GivesTo tLam)
section
variable {G : Nat → Nat → Option Bool}
def OkE (G : Nat → Nat → Option Bool) (n : Nat) : Prop := ∀ {C : Cfg} {A : EA} {cx : Ct} {X : Cx} {Ex : XK} {c c0 : Calls}, AllC C A cx X Ex c c0 G → ∀ {e : Expr} {c' : E}, er A n e = some c' →
  (∀ m, PE X e (tE C Ex fun δ S => ev c G m cx c' δ S)) ∧ ∀ m m2, PT X e (tB' C Ex fun δ S => tests (fun e S => ev c G m cx e δ S) m2 c' S)
variable {C : Cfg} {A : EA} {cx : Ct} {X : Cx} {Ex : XK} {c c0 : Calls} {n : Nat}
theorem ok_args (ih : OkE G n) (K : AllC C A cx X Ex c c0 G) (m : Nat) {es : List Expr} {cs : List E} (h : erL (er A n) es = some cs) : PA X es (tA C Ex fun δ S => evs (fun e S => ev c G m cx e δ S) cs S) :=
  s_args (F := fun e δ S => ev c G m cx e δ S) (fun e c' h => er_star h) (fun e c' h => (ih K h).1 m) h
theorem ok_part (ih : OkE G n) (K : AllC C A cx X Ex c c0 G) (m : Nat) {o : Option Expr} {co : Option E} (h : erO (er A n) o = some co) : PO X o (tO' C Ex fun δ S => evo (fun e S => ev c G m cx e δ S) co S) := by
  cases o with
  | none => cases h; exact s_nopart
  | some e =>
    simp only [erO, Option.map_eq_some_iff] at h
    obtain ⟨c', h, rfl⟩ := h
    exact s_part ((ih K h).1 m)
theorem pe0 {e : Expr} {c' : E} : PE X e (tE C Ex fun δ S => ev c G 0 cx c' δ S) := pe_no (no_bad fun δ S => rfl)
theorem map_some {α β : Type} {o : Option α} {f : α → β} {b : β} (h : o.map f = some b) : ∃ a, o = some a ∧ f a = b := by simpa using h
theorem guardE_some {o : Option E} {c : E} (h : guardE o = some c) : o = some c ∧ isE c = true := by
  unfold guardE at h
  split at h
  · split at h
    · rename_i q
      cases h
      exact ⟨rfl, q⟩
    · cases h
  · cases h
/-- what is walked -/
theorem ok_items (ih : OkE G n) (K : AllC C A cx X Ex c c0 G) (m : Nat) {tg e : Expr} {c' : E} (h : erI A (er A n) tg e = some c') : PI X tg e (tIt C Ex fun δ S => items (fun e S => ev c G m cx e δ S) c' S) ∧ ∀ env x, foldedSetIterable e env x = pure x := by
  have seq : ∀ {e : Expr} {c' : E}, guardE (er A n e) = some c' → PI X tg e (tIt C Ex fun δ S => items (fun e S => ev c G m cx e δ S) c' S) := fun {e c'} hg => by
    obtain ⟨h, he⟩ := guardE_some hg
    have p := i_seq (tg := tg) K.k ((ih K h).1 m)
    have e2 : (fun (δ : Env) S => items (fun e S => ev c G m cx e δ S) c' S) = fun δ S => (ev c G m cx c' δ S).bind seqD := by
      funext δ S
      cases c' <;> first | rfl | cases he
    rw [e2]
    exact p
  unfold erI at h
  split at h
  · refine ⟨?_, fun _ _ => rfl⟩
    split at h
    · rename_i hdis
      split at h
      · rename_i hg
        split at h
        · rename_i hG
          split at h
          · rename_i hx
            subst hx
            split at h
            · obtain ⟨cb, hb, rfl⟩ := map_some h
              exact i_rng1 K.k (er_star hb) ((ih K hb).1 m) hg hG
            · split at h
              · rename_i ha hb
                cases h
                exact i_rng2 K.k (er_star ha) (er_star hb) ((ih K ha).1 m) ((ih K hb).1 m) hg hG
              · cases h
            · cases h
          · split at h
            · rename_i hx
              subst hx
              split at h
              · split at h
                · rename_i ht
                  cases tg <;> first | cases ht; done | skip
                  split at h
                  · rename_i ha hb
                    cases h
                    exact i_zip K.k (er_star ha) (er_star hb) ((ih K ha).1 m) ((ih K hb).1 m) hg hG
                  · cases h
                · cases h
              · cases h
            · rename_i h1 h2
              split at h
              · split at h
                · rename_i ht
                  obtain ⟨ca, ha, rfl⟩ := map_some h
                  cases tg <;> first | cases ht; done | skip
                  rcases hdis with hx | hx | hx
                  · exact absurd hx h1
                  · exact absurd hx h2
                  · subst hx
                    exact i_enum K.k (er_star ha) ((ih K ha).1 m) hg hG
                · cases h
              · cases h
        · cases h
      · cases h
    · exact seq h
  · cases h
  · refine ⟨seq h, fun env x => ?_⟩
    rename_i hn
    cases e <;> first | rfl | exact absurd rfl (hn _ _ _)
/-- what is walked while an exception is handled -/
theorem ok_itemsH (ih : OkE G n) (K : AllC C A cx X Ex c c0 G) (m : Nat) {tg e : Expr} {c' : E} (h : erI A (er A n) tg e = some c') : L2H.PIH X tg e (tIt C Ex fun δ S => itemsL (fun e S => ev c G m cx e δ S) c' S) ∧ ∀ env x, foldedSetIterable e env x = pure x := by
  refine ⟨?_, (ok_items ih K m h).2⟩
  have seq : ∀ {e : Expr} {c' : E}, guardE (er A n e) = some c' → L2H.PIH X tg e (tIt C Ex fun δ S => itemsL (fun e S => ev c G m cx e δ S) c' S) := fun {e c'} hg => i_lstH (tg := tg) K.k ((ih K (guardE_some hg).1).1 m)
  have bad : ∀ {e : Expr} {c' : E}, isE c' = false → L2H.PIH X tg e (tIt C Ex fun δ S => itemsL (fun e S => ev c G m cx e δ S) c' S) := fun {e c'} hc => ⟨fun pins s σ H R I q => (no_bad (fun δ S => by
    cases c' <;> first | (cases hc; done) | skip
    all_goals cases m <;> rfl) σ H R q).elim⟩
  unfold erI at h
  split at h
  · split at h
    · refine bad ?_
      repeat' split at h
      all_goals first
        | (cases h; done)
        | (cases h; rfl)
        | (obtain ⟨_, _, rfl⟩ := map_some h; rfl)
    · exact seq h
  · cases h
  · exact seq h
end
end IT
end
section
set_option Elab.async false
set_option linter.all false
set_option maxRecDepth 100000
set_option autoImplicit false
namespace IT
open PySem PySem.Spec PyProof.Rows L2
open LamX (Tabs TabS CodeO lamSB lamS_by lamCx lamEnv TabB GivesTo tLam)
section
variable {G : Nat → Nat → Option Bool} {C : Cfg} {A : EA} {cx : Ct} {X : Cx} {Ex : XK} {c c0 : Calls} {n : Nat}
theorem ite_call {α : Type} {P : Prop} [Decidable P] {f g : Env → Sto → R α} (h : P) (hf : ∀ δ S, f δ S = if P then g δ S else .bad) : f = g := by
  funext δ S
  rw [hf, if_pos h]
theorem lamArg_some {es : List Expr} {q : Arguments × Expr × Scope} (h : lamArg es = some q) : ∃ p, es = [.Lambda q.1 q.2.1 q.2.2 p] := by
  unfold lamArg at h
  split at h
  · cases h; exact ⟨_, rfl⟩
  · cases h
theorem params0_ok {params : Arguments} (h : params0 params = true) : params = ⟨[], [], none, [], [], none, []⟩ := by
  unfold params0 at h
  split at h
  · rfl
  · cases h
/-- x(lambda: body) -/
theorem ok_lam (ih : OkE G n) (K : AllC C A cx X Ex c c0 G) {x : Str} {i : Nat} {b : E} {body : Expr} {scope : Scope} {p lpos pos : Pos} (hl : A.lam = true) (hx : A.hx = none) (hg : gloB A.sc x = true) (hG : A.G x = some (.fn i)) (hd : ¬ dbg x = true)
    (hL : lamSB A.sc scope = true) (hb : er (A.lamA scope) n body = some b) : PE X (.Call (.Name x p) [.Lambda ⟨[], [], none, [], [], none, []⟩ body scope lpos] [] pos) (tE C Ex fun δ S => c.cl i b δ S) := by
  obtain ⟨d1, d2, d3⟩ := dbg_ok hd
  rcases K.kl.gv hl x i hG with hbad | hgiv
  · exact pe_no (no_bad fun δ S => hbad b δ S)
  · obtain ⟨k, pg, bg, sg, dV, kV, doc, pm, cdv, ct, oc, an, od, osl, Ng, a, h1, h2, h3, h4, h5, h6, h7, h8, h9, h10, h11, h12⟩ := hgiv
    obtain ⟨cd, P, t1, t2, t3, t4⟩ := K.kl.tb hl
    obtain ⟨TT, g1, g2⟩ := h12 C.av
    have hL' : LamX.LamS X.env.scope scope := by rw [K.k.hs]; exact lamS_by hL
    have q := pe_lamcallN (X := X) (T := C.T) (TT := TT) (p := p) (lpos := lpos) (pos := pos) (params := ⟨[], [], none, [], [], none, []⟩) (body := body) (scope := scope) (t := fun E => tE C E fun δ S => ev c0 G AF {} b δ S)
      (K.k.gl' hg) (K.k.gl x _ hG).1 h3 h4 h5 h6 h7 h8 h9 (g1 _) t1 t2 t3 t4 h1 hL' rfl (fun q cl pm cv ctv => by first | rfl | kernel_rfl) (fun A' outer s H E f c' hr => (ih (AllC.lam K hx h2 scope C.av A' outer s H E f c' hr) hb).1 AF) d1 h10 h11
    exact PE.imp q fun σ H Q h => g2 b Ex σ H Q h
theorem own_slots {N : List Str} : ∀ {l : List (Str × NameKind)} {q : Str × Nat}, q ∈ ownOf N l → idx N q.1 = some q.2
  | [], _, h => by cases h
  | (x, k) :: r, q, h => by
    unfold ownOf at h
    split at h
    · split at h
      · rename_i e
        rcases List.mem_cons.mp h with z | z
        · rw [z]; exact e
        · exact own_slots z
      · exact own_slots h
    · split at h
      · rename_i e
        rcases List.mem_cons.mp h with z | z
        · rw [z]; exact e
        · exact own_slots z
      · exact own_slots h
    · exact own_slots h
/-- a list comprehension -/
theorem ok_lc (ih : OkE G n) (K : AllC C A cx X Ex c c0 G) (m : Nat) {elt tg iter : Expr} {ifs : List Expr} {scope : Scope} {pos : Pos} {t : T} {it ce : E} {cq : Option E} (mm : Bool)
    (hb : blkC A.N A.sc scope (ownOf A.N scope.names) = true) (ho : (ownOf A.N scope.names).all (fun q => decide (some q.2 ≠ A.hs)) = true) (ht : erT (A.blk scope) 8 tg = some t) (hi : erI A (er A n) tg iter = some it) (he : er (A.blk scope) n elt = some ce)
    (hs : (T.slots t).all ((ownOf A.N scope.names).map (·.2)).contains = true) (hq : match cq with
      | none => ifs = []
      | some q => ∃ e, ifs = [e] ∧ er (A.blk scope) n e = some q) :
    PE X (.ListComp elt [⟨tg, iter, ifs, 0⟩] scope pos) (tE C Ex fun δ S => ev c G (m + 1) cx (.lc mm ce t it cq ((ownOf A.N scope.names).map (·.2))) δ S) := by
  have hbl : BlkOk X.N X.env.scope scope (ownOf A.N scope.names) := by
    rw [K.k.hN, K.k.hs]
    exact blkOk_by hb
  have hto : ∀ i ∈ T.slots t, i ∈ (ownOf A.N scope.names).map (·.2) := fun i hi => by
    have := List.all_eq_true.mp hs i hi
    simpa using this
  have hj : ∀ j v, C.J = some (j, v) → j ∉ (ownOf A.N scope.names).map (·.2) := fun j v e hm => by
    obtain ⟨q, hq, rfl⟩ := List.mem_map.mp hm
    have h1 := List.all_eq_true.mp ho q hq
    simp only [decide_eq_true_eq] at h1
    obtain ⟨nm, h2, h3⟩ := K.k.jj _ v e
    refine h1 ?_
    have e1 : idx A.N nm = some q.2 := by
      have e2 := own_slots hq
      have e3 := idx_ok e2
      rw [h3] at e3
      rw [Option.some.inj e3]
      exact e2
    unfold EA.hs
    rw [h2]
    exact e1.symm
  have hND : X.N.Nodup := by rw [K.k.hN]; exact K.k.nd
  cases hh : cx.h.isNone with
  | true =>
    obtain ⟨hI, hF⟩ := ok_items ih K m (tg := tg) hi
    have B := fun av s H D cl fp => AllC.blk K hh scope av s H D cl fp
    have pg : ∀ (s : Shared) (H : Hp) (D : Addr) (cl : List (Str × Addr)) (fp : List Addr), PG (X.blk s H scope (compEnvC scope cl D X.env) fp) tg (fun v σ H Q => ∃ av, gT (C.a av) t v σ H Q) := fun s H D cl fp => PG.ex fun av => s_put (B av s H D cl fp).k ht
    have pe : ∀ (s : Shared) (H : Hp) (D : Addr) (cl : List (Str × Addr)) (fp : List Addr), PE (X.blk s H scope (compEnvC scope cl D X.env) fp) elt (fun σ H Q => ∃ av, tE (C.a av) (fun _ _ _ => False) (fun δ S => ev c G m cx ce δ S) σ H Q) := fun s H D cl fp => PE.ex fun av => (ih (B av s H D cl fp) he).1 m
    have pt : ∀ (s : Shared) (H : Hp) (D : Addr) (cl : List (Str × Addr)) (fp : List Addr), PTs (X.blk s H scope (compEnvC scope cl D X.env) fp) ifs (ttE C (cq.map fun t δ S => tests (fun e S => ev c G m cx e δ S) m t S)) := fun s H D cl fp => by
      cases cq with
      | none => rw [hq]; exact pts_nil
      | some q =>
        obtain ⟨e, rfl, hq⟩ := hq
        exact PTs.ex fun av => pts_one ((ih (B av s H D cl fp) hq).2 m m)
    refine PE.imp (pe_lc (K.k.cal hh) hND hI hbl pg pt pe (hF _)) fun σ H Q h => lc_sound hto hj (m := mm) ?_
    have e : (fun δ S => ev c G (m + 1) cx (.lc mm ce t it cq ((ownOf A.N scope.names).map (·.2))) δ S) = lcR (fun δ S => items (fun e S => ev c G m cx e δ S) it S) mm t (cq.map fun t δ S => tests (fun e S => ev c G m cx e δ S) m t S) (fun δ S => ev c G m cx ce δ S) ((ownOf A.N scope.names).map (·.2)) := by
      funext δ S
      rw [ev]
      simp only [hh, if_true]
    rw [e] at h
    exact h
  | false =>
    obtain ⟨hI, hF⟩ := ok_itemsH ih K m (tg := tg) hi
    obtain ⟨p, hp, hm⟩ := K.k.ht hh
    have B := fun av s H D cl fp => AllC.blkH K hh hp (K.kl.hl hh) scope av s H D cl fp
    have pg : ∀ (s : Shared) (H : Hp) (D : Addr) (cl : List (Str × Addr)) (fp : List Addr), PG (IT.blkH X p s H scope (compEnvC scope cl D X.env) fp) tg (fun v σ H Q => ∃ av, gT (C.a av) t v σ H Q) := fun s H D cl fp => PG.ex fun av => s_put (B av s H D cl fp).k ht
    have pe : ∀ (s : Shared) (H : Hp) (D : Addr) (cl : List (Str × Addr)) (fp : List Addr), PE (IT.blkH X p s H scope (compEnvC scope cl D X.env) fp) elt (fun σ H Q => ∃ av, tE (C.a av) (fun _ _ _ => False) (fun δ S => ev c G m cx ce δ S) σ H Q) := fun s H D cl fp => PE.ex fun av => (ih (B av s H D cl fp) he).1 m
    have pt : ∀ (s : Shared) (H : Hp) (D : Addr) (cl : List (Str × Addr)) (fp : List Addr), PTs (IT.blkH X p s H scope (compEnvC scope cl D X.env) fp) ifs (ttE C (cq.map fun t δ S => tests (fun e S => ev c G m cx e δ S) m t S)) := fun s H D cl fp => by
      cases cq with
      | none => rw [hq]; exact pts_nil
      | some q =>
        obtain ⟨e, rfl, hq⟩ := hq
        exact PTs.ex fun av => pts_one ((ih (B av s H D cl fp) hq).2 m m)
    refine PE.imp (pe_lcH hp hm hND hI hbl pg pt pe (hF _)) fun σ H Q h => lc_sound hto hj (m := mm) ?_
    have e : (fun δ S => ev c G (m + 1) cx (.lc mm ce t it cq ((ownOf A.N scope.names).map (·.2))) δ S) = lcR (fun δ S => itemsL (fun e S => ev c G m cx e δ S) it S) mm t (cq.map fun t δ S => tests (fun e S => ev c G m cx e δ S) m t S) (fun δ S => ev c G m cx ce δ S) ((ownOf A.N scope.names).map (·.2)) := by
      funext δ S
      rw [ev]
      simp only [hh, Bool.false_eq_true, if_false]
    rw [e] at h
    exact h
theorem hxArg_ok {A : EA} {a : Expr} (h : hxArg A a = true) : ∃ y p, a = .Name y p ∧ A.hx = some y ∧ visB A.sc y = true ∧ ¬ dbg y = true ∧ A.hu = true := by
  unfold hxArg at h
  split at h
  · simp only [Bool.and_eq_true, decide_eq_true_eq, Bool.not_eq_true'] at h
    exact ⟨_, _, rfl, h.1.1.1, h.1.1.2, by rw [h.1.2]; exact Bool.false_ne_true, h.2⟩
  · cases h
/-- isinstance(e, a class), e the exception that is handled -/
theorem ok_exi (K : AllC C A cx X Ex c c0 G) (m : Nat) {a : Expr} {t : Str} {k : Nat} {p p1 pos : Pos} (hg : gloB A.sc "isinstance" = true) (hG : A.G "isinstance" = some .free) (hgt : gloB A.sc t = true) (hGt : A.G t = some (.cls k)) (hd : dbg t = false) (ha : hxArg A a = true) :
    PE X (.Call (.Name "isinstance" p) [a, .Name t p1] [] pos) (tE C Ex fun δ S => ev c G (m + 1) cx (.exi k) δ S) := by
  obtain ⟨y, py, rfl, hy, hv, hdy, hu⟩ := hxArg_ok ha
  obtain ⟨d1, d2, d3⟩ := dbg_ok hdy
  obtain ⟨t1, t2, t3⟩ := dbg_ok (x := t) (by rw [hd]; exact Bool.false_ne_true)
  cases hc : cx.h with
  | none => exact pe_no (no_bad fun δ S => by rw [ev]; simp only [hc])
  | some q =>
    obtain ⟨j, x⟩ := q
    cases hb : G j k with
    | none => exact pe_no (no_bad fun δ S => by rw [ev]; simp only [hc, hb])
    | some b =>
      obtain ⟨i, v, hJ, cr⟩ := K.ke hu j x hc k b hb
      obtain ⟨nm, h1, h2⟩ := K.k.jj i v hJ
      rw [hy] at h1
      cases h1
      have e : X.N[i]? = some y := by rw [K.k.hN]; exact h2
      have vis := visB_ok hv
      rw [← K.k.hs] at vis
      have pa : PA X [.Name y py, .Name t p1] _ := pa_cons (pe_var e vis d1 d2) (pa_cons (pe_glob (K.k.gl' hgt) (K.k.gl t _ hGt) (v := .ref (C.ga k)) rfl t1) pa_nil)
      refine PE.imp (pe_callB cr (K.k.gl' hg) (K.k.gl _ _ hG) rfl pa (by decide) (by decide) rfl rfl) fun σ H Q ⟨μ, δ, S, st, q⟩ => ?_
      have q2 : Pst C Ex μ H (.ok (.bl b) S) (Rep C) Q := by
        have e : ev c G (m + 1) cx (.exi k) δ S = .ok (.bl b) S := by rw [ev]; simp only [hc, hb]
        dsimp only at q
        rw [e] at q
        exact q
      exact ⟨v, st.inv i v hJ, rfl, q2.here (.bl b) st.sto⟩
theorem idx_len {es : List Expr} {f : Expr → Option E} {cs : List E} : erL f es = some cs → cs.length = es.length := by
  induction es generalizing cs with
  | nil => intro h; cases h; rfl
  | cons e es ih =>
    intro h
    simp only [erL] at h
    cases e1 : f e with
    | none => rw [e1] at h; cases h
    | some c =>
      cases e2 : erL f es with
      | none => rw [e1, e2] at h; cases h
      | some r => rw [e1, e2] at h; cases h; exact congrArg (· + 1) (ih e2)
/-- a call of a global -/
theorem ok_call (ih : OkE G n) (K : AllC C A cx X Ex c c0 G) (m : Nat) {mu : Bool} {x : Str} {es : List Expr} {c' : E} {p pos : Pos} (hg : gloB A.sc x = true) (hd : ¬ dbg x = true) (h : erCall A (er A n) mu x es = some c') : PE X (.Call (.Name x p) es [] pos) (tE C Ex fun δ S => ev c G (m + 1) cx c' δ S) := by
  unfold erCall at h
  split at h
  · -- a def
    rename_i i hG
    obtain ⟨cs, hcs, rfl⟩ := map_some h
    by_cases hk : cx.h.isNone = true ∧ c.kn i = true
    · have e : (fun δ S => ev c G (m + 1) cx (.call i cs) δ S) = fun δ S => (evs (fun e S => ev c G m cx e δ S) cs S).bind fun ds S1 => c.ca i ds S1 := by
        funext δ S
        rw [ev]
        simp only [hk, and_self, if_true]
      rw [e]
      cases es with
      | nil =>
        cases hcs
        exact s_call0 K.k K.kc hk.1 hg hG hd hk.2
      | cons e1 es =>
        have hst : starEach (e1 :: es) X.env = (false, eval e1 X.env) :: starEach es X.env := by
          simp only [erL] at hcs
          cases q : er A n e1 with
          | none => rw [q] at hcs; cases hcs
          | some _ => exact er_star q es X.env
        have hpl : (backTo pos (starEach es X.env)).any (·.1) = false := by
          simp only [erL] at hcs
          cases q : er A n e1 with
          | none => rw [q] at hcs; cases hcs
          | some _ =>
            cases q2 : erL (er A n) es with
            | none => rw [q, q2] at hcs; cases hcs
            | some _ => exact star_back (fun e c h => er_star h) _ _ q2
        exact s_call K.k K.kc hk.1 hg hG hd hk.2 (ok_args ih K m hcs) hst hpl
    · refine pe_no (no_bad fun δ S => ?_)
      rw [ev]
      simp only [hk, if_false]
  · -- gcd
    rename_i hG
    split at h
    · split at h
      · rename_i ca cb ha hb
        cases h
        cases hh : cx.h.isNone with
        | false => exact pe_no (no_bad fun δ S => by rw [ev]; simp only [hh, Bool.false_eq_true, if_false])
        | true =>
          have e : (fun δ S => ev c G (m + 1) cx (.bi .gcd [ca, cb]) δ S) = fun δ S => (evs (fun e S => ev c G m cx e δ S) [ca, cb] S).bind fun ds S1 => bins .gcd ds S1 := by
            funext δ S
            rw [ev]
            simp only [hh, if_true]
          rw [e]
          refine s_gcd K.k hh hg hG hd (fun env => er_star ha _ env) ?_ (ok_args ih K m (by simp only [erL, ha, hb]))
          rw [backTo_any, er_star hb]
          rfl
      · cases h
    · cases h
  · rename_i hG
    split at h
    · rename_i hx
      subst hx
      split at h
      · rename_i a t p1
        split at h
        · rename_i hgt
          split at h
          · rename_i hxa
            split at h
            · rename_i k hGt
              cases h
              exact ok_exi K m hg hG hgt.1 hGt hgt.2 hxa
            · cases h
          · split at h
            · rename_i u hGt ht
              obtain ⟨ca, ha, rfl⟩ := map_some h
              cases hh : cx.h.isNone with
              | false => exact pe_no (no_bad fun δ S => by rw [ev]; simp only [hh, Bool.false_eq_true, if_false])
              | true =>
                have e : (fun δ S => ev c G (m + 1) cx (.isi ca u) δ S) = fun δ S => (ev c G m cx ca δ S).bind fun x S1 => isiD u x S1 := by
                  funext δ S
                  rw [ev]
                  simp only [hh, if_true]
                rw [e]
                exact s_isi K.k hg hG hgt.1 hGt (by rw [hgt.2]; exact Bool.false_ne_true) ht (er_star ha) ((ih K ha).1 m)
            · cases h
        · cases h
      · cases h
    · split at h
      · rename_i a bi hb
        obtain ⟨ca, ha, rfl⟩ := map_some h
        cases hh : cx.h.isNone with
        | false => exact pe_no (no_bad fun δ S => by rw [ev]; simp only [hh, Bool.false_eq_true, if_false])
        | true =>
          have e : (fun δ S => ev c G (m + 1) cx (.bi bi [ca]) δ S) = fun δ S => (evs (fun e S => ev c G m cx e δ S) [ca] S).bind fun ds S1 => bins bi ds S1 := by
            funext δ S
            rw [ev]
            simp only [hh, if_true]
          rw [e]
          exact s_bi1 K.k hh hg hG hd hb (fun env => er_star ha _ env) (ok_args ih K m (es := [a]) (by simp only [erL, ha]))
      · cases h
  · cases h
theorem pw_of {X : Cx} {op : BoolOp} {es : List Expr} {pos : Pos} {t : TT} (h : PT X (.BoolOp op es pos) t) : PW X (.BoolOp op es pos) t := ⟨fun wh pins s σ H Q I q => h.run pins s σ H Q I q⟩
theorem s_callv0 (k : Ctx C A cx X) (kc : CtxC C X Ex c cx) (hh : cx.h.isNone = true) {x : Str} {p pos : Pos} {i : Nat} (hv : visB A.sc x = true) (hi : idx A.N x = some i) (hd : ¬ dbg x = true) :
    PE X (.Call (.Name x p) [] [] pos) (tE C Ex fun δ S => match δ[i]? with
      | some (some (.glo f)) => if c.kn f = true then (evs (fun e S => .bad) [] S).bind fun ds S1 => c.ca f ds S1 else .bad
      | _ => .bad) := by
  obtain ⟨d1, d2, d3⟩ := dbg_ok hd
  refine ⟨fun pins s σ H Q I ⟨μ, δ, S, st, h⟩ => ?_⟩
  dsimp only at h
  split at h
  · rename_i f hf
    split at h
    · rename_i hk
      obtain ⟨kp, j, fd, ps, hr, F, hb⟩ := (kc.fn hh C.J C.av f hk : CallOk C X c f)
      obtain ⟨v, hv', r⟩ := st.env.at_ i _ hf
      cases r
      have e := idx_ok hi
      rw [← k.hN] at e
      have vis := visB_ok hv
      rw [← k.hs] at vis
      refine wpAny_Call_Name_kw (thn ((pe_var (pos := p) e vis d1 d2).run pins s σ H (fun v H1 => v = .ref (C.ga f) ∧ H1 = H) I ⟨.ref (C.ga f), hv', rfl, rfl⟩) fun u s1 ⟨v, H1, I1, r1, q1⟩ => ?_)
      obtain ⟨rfl, rfl⟩ := q1
      cases r1
      exact PySem.W.callWith_K0 I1.kIn kp (run_fnS (us := []) (E := fun _ => Ex) F hr hb (kc.ps hh σ) I1 .nil ⟨μ, S, [], .nil, st.sto, st.tab, h⟩)
    · exact h.elim
  · exact h.elim
def boE : BoolOp → E → E → E
  | .And, x, y => .and x y
  | .Or, x, y => .or x y
theorem er_bool {A : EA} {n : Nat} {op : BoolOp} {es : List Expr} {pos : Pos} {c : E} (h : er A (n + 1) (.BoolOp op es pos) = some c) :
    (∃ a, es = [a] ∧ er A n a = some c) ∨ ∃ a b r x y, es = a :: b :: r ∧ er A n a = some x ∧ er A n (.BoolOp op (b :: r) pos) = some y ∧ c = boE op x y := by
  unfold er at h
  split at h
  · exact .inl ⟨_, rfl, h⟩
  · split at h
    · rename_i x y hx hy
      refine .inr ⟨_, _, _, x, y, rfl, hx, hy, ?_⟩
      cases op <;> (cases h; rfl)
    · cases h
  · cases h
theorem er_ok (n : Nat) : OkE G n := by
  induction n with
  | zero =>
    intro C A cx X Ex c c0 K e c' h
    cases h
  | succ n ih =>
    intro C A cx X Ex c c0 K e c' h
    have pe : ∀ m, PE X e (tE C Ex fun δ S => ev c G m cx c' δ S) := fun m => by
      cases m with
      | zero => exact pe0
      | succ m =>
        cases e
        case Constant k kk pos =>
          unfold er at h
          cases k <;> first | (cases h; done) | skip
          all_goals (cases h; exact s_const rfl)
        case Name x pos =>
          refine s_name K.k (show erName A x = some c' from h) fun δ S => ?_
          have hp := erName_plain (show erName A x = some c' from h)
          have h' : erName A x = some c' := h
          unfold erName at h'
          repeat' split at h'
          all_goals first
            | (cases h'; done)
            | (cases h'; rfl)
            | (simp only [Option.map_eq_some_iff] at h'; obtain ⟨_, _, rfl⟩ := h'; rfl)
        case BinOp a op b pos =>
          unfold er at h
          split at h
          · rename_i ho ha hb
            cases h
            exact s_bin K.k ho ((ih K ha).1 m) ((ih K hb).1 m)
          · cases h
        case UnaryOp op a pos =>
          unfold er at h
          split at h
          · obtain ⟨ca, ha, rfl⟩ := map_some h
            exact s_neg ((ih K ha).1 m)
          · obtain ⟨ca, ha, rfl⟩ := map_some h
            exact s_not K.k ((ih K ha).1 m)
          · cases h
        case BoolOp op es pos =>
          rcases er_bool h with ⟨a, rfl, ha⟩ | ⟨a, b, r, x, y, rfl, hx, hy, rfl⟩
          · exact pe_one ((ih K ha).1 (m + 1))
          · cases op with
            | And => exact s_and K.k ((ih K hx).1 m) ((ih K hy).1 m)
            | Or => exact s_or K.k ((ih K hx).1 m) ((ih K hy).1 m)
        case Compare a ops es pos =>
          unfold er at h
          split at h
          · split at h
            · cases h
            · rename_i hm
              split at h
              · rename_i ha hb
                cases h
                exact s_cmp K.k (by simpa using hm) ((ih K ha).1 m) ((ih K hb).1 m)
              · cases h
          · split at h
            · cases h
            · rename_i hm
              split at h
              · rename_i ha hb hd
                cases h
                simp only [not_or, Bool.not_eq_true] at hm
                exact s_chain K.k hm.1 hm.2 ((ih K ha).1 m) ((ih K hb).1 m) ((ih K hd).1 m)
              · cases h
          · cases h
        case IfExp t a b pos =>
          unfold er at h
          split at h
          · rename_i ht ha hb
            cases h
            exact s_ite ((ih K ht).2 m m) ((ih K ha).1 m) ((ih K hb).1 m)
          · cases h
        case Tuple es k pos =>
          unfold er at h
          obtain ⟨cs, hcs, rfl⟩ := map_some h
          exact s_tup (ok_args ih K m hcs)
        case List es pos =>
          unfold er at h
          obtain ⟨cs, hcs, rfl⟩ := map_some h
          split
          · exact s_nlst (ok_args ih K m hcs)
          · exact s_lst (ok_args ih K m hcs)
        case Subscript a i pos =>
          unfold er at h
          split at h
          · obtain ⟨ca, ha, rfl⟩ := map_some h
            exact s_rev K.k ((ih K ha).1 m)
          · split at h
            · rename_i ha hl hh
              cases h
              exact s_slice K.k ((ih K ha).1 m) (ok_part ih K m hl) (ok_part ih K m hh)
            · cases h
          · split at h
            · rename_i ha hi
              cases h
              exact s_ix K.k (er_plain hi) ((ih K ha).1 m) ((ih K hi).1 m)
            · cases h
        case Call f es kws pos =>
          unfold er at h
          split at h
          · rename_i x p
            split at h
            · cases h
            · rename_i hd
              split at h
              · rename_i params body scope hl
                split at h
                · rename_i hc
                  obtain ⟨h1, h2, h3, h4, h5⟩ := hc
                  split at h
                  · rename_i i hG
                    obtain ⟨b, hb, rfl⟩ := map_some h
                    obtain ⟨lp, rfl⟩ := lamArg_some hl
                    have hpz := params0_ok h5
                    subst hpz
                    cases hh : cx.h.isNone with
                    | true =>
                      have e : (fun δ S => ev c G (m + 1) cx (.lam i b) δ S) = fun δ S => c.cl i b δ S := by
                        funext δ S
                        rw [ev]
                        simp only [hh, if_true]
                      rw [e]
                      exact ok_lam ih K h1 h2 h3 hG hd h4 hb
                    | false => exact pe_no (no_bad fun δ S => by rw [ev]; simp only [hh, Bool.false_eq_true, if_false])
                  · cases h
                · cases h
              · split at h
                · rename_i hg
                  exact ok_call ih K m hg hd h
                · split at h
                  · rename_i hv
                    split at h
                    · cases h
                    · split at h
                      · rename_i i cs hi hcs
                        cases h
                        cases hh : cx.h.isNone with
                        | false => exact pe_no (no_bad fun δ S => by rw [ev]; simp only [hh, Bool.false_eq_true, if_false])
                        | true =>
                          have e : (fun δ S => ev c G (m + 1) cx (.callv i cs) δ S) = fun δ S => match δ[i]? with
                              | some (some (.glo f)) => if c.kn f = true then (evs (fun e S => ev c G m cx e δ S) cs S).bind fun ds S1 => c.ca f ds S1 else .bad
                              | _ => .bad := by
                            funext δ S
                            rw [ev]
                            simp only [hh, if_true]
                            try rfl
                          rw [e]
                          cases es with
                          | nil =>
                            cases hcs
                            exact s_callv0 K.k K.kc hh hv hi hd
                          | cons e1 es =>
                            have hst : starEach (e1 :: es) X.env = (false, eval e1 X.env) :: starEach es X.env := by
                              simp only [erL] at hcs
                              cases q : er A n e1 with
                              | none => rw [q] at hcs; cases hcs
                              | some _ => exact er_star q es X.env
                            have hpl : (backTo pos (starEach es X.env)).any (·.1) = false := by
                              simp only [erL] at hcs
                              cases q : er A n e1 with
                              | none => rw [q] at hcs; cases hcs
                              | some _ =>
                                cases q2 : erL (er A n) es with
                                | none => rw [q, q2] at hcs; cases hcs
                                | some _ => exact star_back (fun e c h => er_star h) _ _ q2
                            exact s_callv K.k K.kc hh hv hi hd (ok_args ih K m hcs) hst hpl
                      · cases h
                  · cases h
          · rename_i o mt apos
            split at h
            · rename_i hc
              split at h
              · rename_i e1
                split at h
                · rename_i hm
                  subst hm
                  split at h
                  · rename_i ho he
                    cases h
                    exact s_app K.k hc.1 hc.2 (fun env => er_star he _ env) ((ih K ho).1 m) ((ih K he).1 m)
                  · cases h
                · split at h
                  · rename_i hm
                    subst hm
                    split at h
                    · rename_i ho he
                      cases h
                      exact s_join K.k hc.1 hc.2 (fun env => er_star he _ env) ((ih K ho).1 m) ((ih K he).1 m)
                    · cases h
                  · cases h
              · cases h
            · cases h
          · cases h
        case ListComp elt gs scope pos =>
          unfold er at h
          split at h
          · split at h
            · rename_i hb
              split at h
              · rename_i ht hi he
                split at h
                · rename_i hs
                  split at h
                  · cases h
                    exact ok_lc ih K m _ hb.1 hb.2 ht hi he hs rfl
                  · split at h
                    · rename_i hq
                      cases h
                      exact ok_lc ih K m _ hb.1 hb.2 ht hi he hs ⟨_, rfl, hq⟩
                    · cases h
                  · cases h
                · cases h
              · cases h
            · cases h
          · cases h
        all_goals (unfold er at h; cases h)
    refine ⟨pe, fun m m2 => ?_⟩
    cases m2 with
    | zero => exact pt_no (no_bad fun δ S => rfl)
    | succ m2 =>
      cases hp : plainE e with
      | true =>
        have e2 : (fun (δ : Env) S => tests (fun e S => ev c G m cx e δ S) (m2 + 1) c' S) = fun δ S => (ev c G m cx c' δ S).bind fun d S1 => tst S1 d := by
          funext δ S
          exact tests_plain (er_plainC h hp) m2 S
        rw [e2]
        exact s_truth K.k (fun w => isTrue_plainE hp _ w) (pe m)
      | false =>
        cases e
        case UnaryOp op a pos =>
          cases op <;> first | (cases hp; done) | skip
          unfold er at h
          obtain ⟨ca, ha, rfl⟩ := map_some h
          exact s_notT ((ih K ha).2 m m2)
        case BoolOp op es pos =>
          rcases er_bool h with ⟨a, rfl, ha⟩ | ⟨a, b, r, x, y, rfl, hx, hy, rfl⟩
          · cases op with
            | And => exact (pw_and1 ((ih K ha).2 m (m2 + 1))).pt
            | Or => exact (pw_or1 ((ih K ha).2 m (m2 + 1))).pt
          · cases op with
            | And => exact (s_andT ((ih K hx).2 m m2) (pw_of ((ih K hy).2 m m2))).pt
            | Or => exact (s_orT ((ih K hx).2 m m2) (pw_of ((ih K hy).2 m m2))).pt
        case Compare a ops es pos =>
          unfold er at h
          split at h
          · split at h
            · cases h
            · rename_i hm
              split at h
              · rename_i ha hb
                cases h
                cases m with
                | zero => exact pt_no (no_bad fun δ S => rfl)
                | succ m => exact s_cmpT K.k (by simpa using hm) ((ih K ha).1 m) ((ih K hb).1 m)
              · cases h
          · split at h
            · cases h
            · rename_i hm
              split at h
              · rename_i ha hb hd
                cases h
                simp only [not_or, Bool.not_eq_true] at hm
                cases m with
                | zero => exact pt_no (no_bad fun δ S => rfl)
                | succ m => exact s_chainT K.k hm.1 hm.2 ((ih K ha).1 m) ((ih K hb).1 m) ((ih K hd).1 m)
              · cases h
          · cases h
        case IfExp t a b pos =>
          unfold er at h
          split at h
          · cases h
            exact pt_no (no_bad fun δ S => rfl)
          · cases h
        all_goals (cases hp)
end
end IT
end
section
set_option Elab.async false
set_option linter.all false
set_option maxRecDepth 100000
set_option autoImplicit false
namespace IT
open PySem PySem.Spec PyProof.Rows L2
open LamX (Tabs TabS CodeO)
/-! ### what follows a statement's end -/
def PstO (C : Cfg) (E : XK) (De : Ends) (μ : List Addr) (H : Hp) : O → Prop
  | .nx δ S => ∀ σ' H' μ', Ext C.T μ H μ' H' → Stt C μ' H' S σ' δ → De.nx σ' H'
  | .bk δ S => ∀ σ' H' μ', Ext C.T μ H μ' H' → Stt C μ' H' S σ' δ → De.bk σ' H'
  | .ct δ S => ∀ σ' H' μ', Ext C.T μ H μ' H' → Stt C μ' H' S σ' δ → De.ct σ' H'
  | .rt d S => ∀ v H' μ', Ext C.T μ H μ' H' → Rep C μ' H' v d → StoR C μ' H' S → De.rt v H'
  | .ex c x S => ∀ cls dd H' μ', Ext C.T μ H μ' H' → ExR C μ' H' cls dd c x → StoR C μ' H' S → E cls dd H'
  | .bad => False
def tS (C : Cfg) (E : XK) (f : Env → Sto → O) : TS := fun De σ H => ∃ μ δ S, Stt C μ H S σ δ ∧ PstO C E De μ H (f δ S)
section
variable {C : Cfg} {E : XK} {De : Ends} {μ μ1 : List Addr} {H H1 : Hp}
theorem PstO.mono {o : O} (p : PstO C E De μ H o) (e : Ext C.T μ H μ1 H1) : PstO C E De μ1 H1 o := by
  cases o with
  | nx δ S => exact fun σ' H' μ' e' => p σ' H' μ' (e.trans e')
  | bk δ S => exact fun σ' H' μ' e' => p σ' H' μ' (e.trans e')
  | ct δ S => exact fun σ' H' μ' e' => p σ' H' μ' (e.trans e')
  | rt d S => exact fun v H' μ' e' => p v H' μ' (e.trans e')
  | ex c x S => exact fun cls dd H' μ' e' => p cls dd H' μ' (e.trans e')
  | bad => exact p
/-- an expression, then what it is used for -/
theorem PstO.bind {α β : Type} {r : R α} {g : α → Sto → O} {rel : List Addr → Hp → β → α → Prop} (p : PstO C E De μ H (O.ofR r g)) :
    Pst C E μ H r rel fun b H1 => ∃ μ1 S1 a, Ext C.T μ H μ1 H1 ∧ rel μ1 H1 b a ∧ StoR C μ1 H1 S1 ∧ PstO C E De μ1 H1 (g a S1) := by
  cases r with
  | ok a S' => exact fun b H' μ' e r s => ⟨μ', S', a, e, r, s, PstO.mono p e⟩
  | ex c x S' => exact p
  | bad => exact p
/-! ### a def's end: the store is cut -/
theorem Ext.cut {T : List (Addr × Str)} {μ' : List Addr} {H' : Hp} (e : Ext T μ H μ' H') : Ext T μ H μ H' := by
  obtain ⟨⟨ν, rfl⟩, o, t⟩ := e
  exact ⟨⟨[], by simp⟩, fun a u h n nt => ⟨(o a u h n nt).1, n⟩, t⟩
mutual
theorem Rep.cut {ν ν' : List Addr} (hs : ∀ x ∈ ν', x ∈ μ ++ ν) : ∀ {d : D} {v : V}, Rep C (μ ++ ν) H v d → D.under μ.length d = true → Rep C (μ ++ ν') H v d
  | .non, _, h, _ => by cases h; exact .non
  | .bl _, _, h, _ => by cases h; exact .bl _
  | .int _, _, h, _ => by cases h; exact .int _
  | .str _, _, h, _ => by cases h; exact .str _
  | .ty _, _, h, _ => by cases h; exact .ty _
  | .glo _, _, h, _ => by cases h; exact .glo _
  | .ref n, _, h, u => by
    cases h with
    | ref h =>
      have hn : n < μ.length := by simpa [D.under] using u
      rw [List.getElem?_append_left hn] at h
      exact .ref (by rw [List.getElem?_append_left hn]; exact h)
  | .tup ds, _, h, u => by
    cases h with
    | tup h r =>
      refine .tup ?_ (RepL.cut hs r u)
      rcases h with ⟨h, n⟩ | h
      · exact .inl ⟨h, fun z => (List.mem_append.mp z).elim (fun z => n (List.mem_append_left _ z)) fun z => n (hs _ z)⟩
      · exact .inr h
  | .lst ds, _, h, u => by
    cases h with
    | lst h n v r => exact .lst h (fun z => (List.mem_append.mp z).elim (fun z => n (List.mem_append_left _ z)) fun z => n (hs _ z)) v (RepL.cut hs r u)
  | .scr _, _, h, _ => by
    cases h with
    | scr h =>
      refine .scr ?_
      rcases h with ⟨o, h, n⟩ | h
      · exact .inl ⟨o, h, fun z => (List.mem_append.mp z).elim (fun z => n (List.mem_append_left _ z)) fun z => n (hs _ z)⟩
      · exact .inr h
theorem RepL.cut {ν ν' : List Addr} (hs : ∀ x ∈ ν', x ∈ μ ++ ν) : ∀ {ds : List D} {vs : List V}, RepL C (μ ++ ν) H vs ds → D.unders μ.length ds = true → RepL C (μ ++ ν') H vs ds
  | [], _, h, _ => by cases h; exact .nil
  | d :: ds, _, h, u => by
    rw [D.unders, Bool.and_eq_true] at u
    cases h with
    | cons r t => exact .cons (Rep.cut hs r u.1) (RepL.cut hs t u.2)
end
theorem ObR.cut {ν ν' : List Addr} (hs : ∀ x ∈ ν', x ∈ μ ++ ν) {a : Addr} {o : Ob} (h : ObR C (μ ++ ν) H a o) (u : Ob.under μ.length o = true) : ObR C (μ ++ ν') H a o := by
  cases o with
  | lst ds =>
    obtain ⟨xs, h1, h2⟩ := h
    exact ⟨xs, h1, h2.cut hs u⟩
  | dct _ => exact h
theorem Ext.cut' {T : List (Addr × Str)} {ν ν' : List Addr} {H' : Hp} (hs : ∀ x ∈ ν', x ∈ μ ++ ν) (e : Ext T μ H (μ ++ ν) H') : Ext T μ H (μ ++ ν') H' :=
  ⟨⟨ν', rfl⟩, fun a u h n nt => ⟨(e.old a u h n nt).1, fun z => (List.mem_append.mp z).elim n fun z => (e.old a u h n nt).2 (hs _ z)⟩, e.tabs⟩
/-- the store cut, with some objects kept behind -/
theorem StoR.cut {ν ν' : List Addr} {S : Sto} {os : List Ob} (hs : ∀ x ∈ ν', x ∈ μ ++ ν) (h : StoR C (μ ++ ν) H S) (u : (S.take μ.length).all (Ob.under μ.length) = true) (hn : (μ ++ ν').Nodup) (hl' : ν'.length = os.length)
    (ho : ∀ (j : Nat) (o : Ob), os[j]? = some o → ∃ a, ν'[j]? = some a ∧ ObR C (μ ++ ν') H a o) : StoR C (μ ++ ν') H (S.take μ.length ++ os) := by
  have hl := h.len
  rw [List.length_append] at hl
  have ht : (S.take μ.length).length = μ.length := by rw [List.length_take]; omega
  refine ⟨by rw [List.length_append, List.length_append, ht, hl'], hn, fun n o q => ?_, fun a ha => ⟨fun z => (List.mem_append.mp z).elim (fun z => (h.avs a ha).1 (List.mem_append_left _ z)) fun z => (h.avs a ha).1 (hs _ z), (h.avs a ha).2⟩⟩
  by_cases hn : n < μ.length
  · rw [List.getElem?_append_left (by omega)] at q
    have hu := List.all_eq_true.mp u o (List.mem_of_getElem? q)
    rw [List.getElem?_take_of_lt hn] at q
    obtain ⟨a, h1, h2⟩ := h.at_ n o q
    rw [List.getElem?_append_left hn] at h1
    exact ⟨a, by rw [List.getElem?_append_left hn]; exact h1, h2.cut hs hu⟩
  · rw [List.getElem?_append_right (by omega), ht] at q
    obtain ⟨a, h1, h2⟩ := ho _ o q
    exact ⟨a, by rw [List.getElem?_append_right (by omega)]; exact h1, h2⟩
theorem StoR.cut0 {ν : List Addr} {S : Sto} (h : StoR C (μ ++ ν) H S) (u : (S.take μ.length).all (Ob.under μ.length) = true) : StoR C μ H (S.take μ.length) := by
  have q := StoR.cut (ν' := []) (os := []) (fun x hx => by cases hx) h u (by rw [List.append_nil]; exact (List.nodup_append.mp h.nd).1) rfl (fun j o e => by simp at e)
  rw [List.append_nil, List.append_nil] at q
  exact q
theorem Rep.cut0 {ν : List Addr} {d : D} {v : V} (h : Rep C (μ ++ ν) H v d) (u : D.under μ.length d = true) : Rep C μ H v d := by
  have q := Rep.cut (ν' := []) (fun x hx => by cases hx) h u
  rw [List.append_nil] at q
  exact q
theorem RepL.cut0 {ν : List Addr} {d : List D} {v : List V} (h : RepL C (μ ++ ν) H v d) (u : D.unders μ.length d = true) : RepL C μ H v d := by
  have q := RepL.cut (ν' := []) (fun x hx => by cases hx) h u
  rw [List.append_nil] at q
  exact q
/-- where an object of the store stands, behind the n-th it is not ahead of it -/
theorem late {ν : List Addr} (nd : (μ ++ ν).Nodup) {m : Nat} {a : Addr} (h : (μ ++ ν)[m]? = some a) (hm : ¬ m < μ.length) : a ∉ μ := fun z => by
  obtain ⟨j, hj⟩ := List.mem_iff_getElem?.mp z
  have hjl := (List.getElem?_eq_some_iff.mp hj).1
  have hj2 : (μ ++ ν)[j]? = some a := by rw [List.getElem?_append_left hjl]; exact hj
  obtain ⟨l1, e1⟩ := List.getElem?_eq_some_iff.mp hj2
  obtain ⟨l2, e2⟩ := List.getElem?_eq_some_iff.mp h
  have := (List.getElem_inj nd).mp (e1.trans e2.symm)
  omega
theorem back_ok {keep : Bool} {ν : List Addr} {S S' : Sto} {v : V} {d d' : D} (s : StoR C (μ ++ ν) H1 S) (r : Rep C (μ ++ ν) H1 v d) (e : Ext C.T μ H (μ ++ ν) H1) (h : back keep μ.length d S = .ok d' S') : ∃ μ', Ext C.T μ H μ' H1 ∧ Rep C μ' H1 v d' ∧ StoR C μ' H1 S' := by
  unfold back at h
  split at h
  · rename_i hu
    cases keep with
    | true =>
      split at h
      · rename_i m _
        split at h
        · cases h
        · rename_i hm
          split at h
          · rename_i o ho
            split at h
            · rename_i huo
              cases h
              obtain ⟨a, h1, h2⟩ := s.at_ m o ho
              cases r with
              | ref hr =>
                rw [h1] at hr
                cases hr
                have na : a ∉ μ := late s.nd h1 hm
                have hs : ∀ x ∈ [a], x ∈ μ ++ ν := fun x hx => by rw [List.mem_singleton.mp hx]; exact List.mem_of_getElem? h1
                refine ⟨μ ++ [a], Ext.cut' hs e, .ref ?_, StoR.cut hs s hu.1 (List.nodup_append.mpr ⟨(List.nodup_append.mp s.nd).1, by simp, fun b hb c hc z => na (by rw [← List.mem_singleton.mp hc, ← z]; exact hb)⟩) rfl fun j o' hj => ?_⟩
                · rw [List.getElem?_append_right (Nat.le_refl _), Nat.sub_self]; rfl
                · cases j with
                  | zero =>
                    cases hj
                    exact ⟨a, rfl, h2.cut hs huo⟩
                  | succ j => simp at hj
            · cases h
          · cases h
      · cases h
      · contradiction
    | false =>
      refine ⟨μ, e.cut, ?_⟩
      have h' : (match freeze S μ.length d with
        | some d' => R.ok d' (S.take μ.length)
        | none => .bad) = .ok d' S' := by
        cases d <;> exact h
      clear h
      cases hf : freeze S μ.length d with
      | none => rw [hf] at h'; cases h'
      | some d2 =>
        rw [hf] at h'
        cases h'
        refine ⟨?_, s.cut0 hu.1⟩
        by_cases hd : ∃ m, d = .ref m
        · obtain ⟨m, rfl⟩ := hd
          simp only [freeze] at hf
          by_cases hm : m < μ.length
          · rw [if_pos hm] at hf
            cases hf
            exact r.cut0 (by simpa [D.under] using hm)
          · rw [if_neg hm] at hf
            split at hf
            · rename_i xs hx
              split at hf
              · rename_i hux
                cases hf
                obtain ⟨a, ys, rfl, h1, r1⟩ := list_at (ds := xs) s r (by simp [listOf, hx])
                cases r with
                | ref hr => exact .lst h1 (late s.nd hr hm) (fun z => (s.avs a z).1 (List.mem_of_getElem? hr)) (r1.cut0 hux)
              · cases hf
            · cases hf
        · have hf' : (if D.under μ.length d = true then some d else none) = some d' := by
            cases d <;> first | exact hf | exact absurd ⟨_, rfl⟩ hd
          split at hf'
          · rename_i hud
            cases hf'
            exact r.cut0 hud
          · cases hf'
  · cases h
/-- what a def's body must reach, by what the def makes -/
theorem end_ok {keep : Bool} {o : O} {Q : VK} (p : Pst C E μ H (endO keep μ.length o) (Rep C) Q) : PstO C E { nx := fun _ H' => Q .non H', rt := Q } μ H o := by
  have fin : ∀ {d : D} {S : Sto} {v : V} {H' : Hp} {μ' : List Addr}, Pst C E μ H (back keep μ.length d S) (Rep C) Q → Ext C.T μ H μ' H' → Rep C μ' H' v d → StoR C μ' H' S → Q v H' := fun {d S v H' μ'} p e r s => by
    obtain ⟨ν, rfl⟩ := e.pre
    cases hb : back keep μ.length d S with
    | bad => rw [hb] at p; exact p.elim
    | ok d' S' =>
      rw [hb] at p
      obtain ⟨μ2, e2, r2, s2⟩ := back_ok s r e hb
      exact p v H' μ2 e2 r2 s2
    | ex c x S' =>
      unfold back at hb
      repeat' split at hb
      all_goals cases hb
  cases o with
  | nx δ S => exact fun σ' H' μ' e st => fin p e .non st.sto
  | rt d S => exact fun v H' μ' e r s => fin p e r s
  | bk δ S => exact p.elim
  | ct δ S => exact p.elim
  | bad => exact p.elim
  | ex c x S =>
    intro cls dd H' μ' e r s
    have p' : Pst C E μ H (if (S.take μ.length).all (Ob.under μ.length) = true ∧ μ.length ≤ S.length ∧ D.under μ.length x = true then .ex c x (S.take μ.length) else .bad) (Rep C) Q := p
    split at p'
    · rename_i hu
      obtain ⟨ν, rfl⟩ := e.pre
      refine p' cls dd H' μ e.cut ⟨r.1, ?_⟩ (s.cut0 hu.1)
      have r2 := r.2
      cases hx : C.xf c with
      | none => rw [hx] at r2; exact r2
      | some f =>
        rw [hx] at r2
        obtain ⟨q, v, e1, e2, e3, e4⟩ := r2
        exact ⟨q, v, e1, fun z => e2 (List.mem_append_left _ z), e3, e4.cut0 hu.2.2⟩
    · exact p'.elim
end
end IT
end
section
set_option Elab.async false
set_option linter.all false
set_option maxRecDepth 100000
set_option autoImplicit false
namespace IT
open PySem PySem.Spec PyProof.Rows L2
open LamX (Tabs TabS CodeO)
/-! ### statements, erased -/
def isFn (sc : Scope) : Bool := match sc.kind with
  | .function => true
  | _ => false
def isLocal (sc : Scope) (x : Str) : Bool := match sc.names.lookup x with
  | some .local => true
  | _ => false
def isStar : Expr → Bool
  | .Starred _ _ => true
  | _ => false
/-- are the stores of a, b = x, y swapped: none, where the model does not say -/
def swB (sc : Scope) (ts vs : List Expr) : Option (Option (List Str)) :=
  if (!(ts.length == 2 || ts.length == 3) || vs.length != ts.length) = true then some none
  else if vs.any isStar = true then some none
  else
    let names := ts.filterMap fun
      | .Name id pos => if (isLocal sc id && pos.line == (ts.head?.map (·.pos.line)).getD 0) = true then some id else none
      | _ => none
    if (names.length != ts.length || names.eraseDups.length != names.length) = true then some none
    else if vs.all (foldedForSure 8) = true then some none
    else if vs.all (constantsAlone 8) = true then none
    else some (some names)
def swP : List Expr → List Expr → List Str → Bool
  | [.Name x _, .Name y _], [_, _], [x', y'] => decide (x = x') && decide (y = y') && !decide (x = y)
  | [.Name x _, .Name y _, .Name z _], [_, _, _], [x', y', z'] => decide (x = x') && decide (y = y') && decide (z = z') && !decide (x = y) && !decide (x = z) && !decide (y = z)
  | _, _, _ => false
def okAsg (A : EA) (tg e : Expr) : Bool := match tg with
  | .Name x _ => (match e with
    | .ListComp _ _ _ _ => A.hx.isNone
    | _ => true)
  | .Tuple ts _ _ => (match e with
    | .Tuple vs _ _ => (match swB A.sc ts vs with
      | some none => true
      | some (some ns) => A.hx.isNone && swP ts vs ns && ts.all fun e => match e with
        | .Name x _ => isLocal A.sc x
        | _ => false
      | none => false)
    | _ => true)
  | _ => false
def isLC : Expr → Bool
  | .ListComp _ _ _ _ => true
  | _ => false
def erB (f : Stmt → Option S) : List Stmt → Option (List S)
  | [] => some []
  | s :: r => match f s, erB f r with
    | some c, some cs => some (c :: cs)
    | _, _ => none
/-- the fuel of the erasure of expressions -/
abbrev EF : Nat := 40
structure ST where
  rz : Nat → Bool
def erS (A : EA) (rz : Nat → Bool) : Nat → Stmt → Option S
  | 0, _ => none
  | n + 1, .Assign ts e pos => (match ts with
    | [.Subscript o i _] => (match er A EF o, er A EF i, er A EF e with
      | some o, some i, some e => some (.setix o i e)
      | _, _, _ => none)
    | [tg] => if okAsg A tg e = true then (match erT A 8 tg, er A EF e with
      | some t, some c => some (.asg t c)
      | _, _ => none) else none
    | _ => none)
  | n + 1, .Expr e _ => if isLC e = true then none else (er A EF e).map S.ex
  | n + 1, .If t a b _ => (match er A EF t, erB (erS A rz n) a, erB (erS A rz n) b with
    | some t, some a, some b => some (.ite t a b)
    | _, _, _ => none)
  | n + 1, .For tg it b els _ => (match els with
    | [] => if A.hx = none then (match erT A 8 tg, erI A (er A EF) tg it, erB (erS A rz n) b with
      | some t, some it, some b => some (.for_ t it b)
      | _, _, _ => none) else none
    | _ => none)
  | n + 1, .While t b els _ => (match els with
    | [] => if A.hx = none then (match er A EF t, erB (erS A rz n) b with
      | some t, some b => some (.whl t b)
      | _, _ => none) else none
    | _ => none)
  | n + 1, .Return e _ => (match e with
    | none => some (.ret none)
    | some e => (er A EF e).map fun c => .ret (some c))
  | n + 1, .Break _ => some .brk
  | n + 1, .Continue _ => some .cnt
  | n + 1, .Pass _ => some .pas
  | n + 1, .Raise e cause _ => (match e, cause with
    | some (.Call (.Name x _) [.Constant (.str _) _ _] [] _), none => if gloB A.sc x = true ∧ dbg x = false then (match A.G x with
      | some (.cls k) => if rz k = true then some (.rai k) else none
      | _ => none) else none
    | _, _ => some .no)
  | _ + 1, _ => none
theorem swB_ok {env : PySem.Env} (hk : env.scope.kind = .function) {ts vs : List Expr} {k1 k2 : Nat} {p1 p2 : Pos} {r : Option (List Str)} (h : swB env.scope ts vs = some r) : swappedStores [.Tuple ts k1 p1] (.Tuple vs k2 p2) env = pure r := by
  have hfn : (env.blockKind != .function) = false := by
    unfold Env.blockKind
    rw [hk] <;> rfl
  have hst : (vs.any fun | .Starred .. => true | _ => false) = vs.any isStar := rfl
  have hid : ∀ id, (env.kindOf id == some .local) = isLocal env.scope id := fun id => by
    unfold Env.kindOf isLocal
    cases env.scope.names.lookup id with
    | none => rfl
    | some k => cases k <;> rfl
  unfold swB at h
  unfold swappedStores
  dsimp only
  rw [hfn, Bool.or_false]
  simp only [hid]
  split at h
  · rename_i h1
    cases h
    exact (if_pos h1).trans rfl
  · rename_i h1
    refine (if_neg h1).trans ?_
    split at h
    · rename_i h2
      cases h
      exact (if_pos (hst.trans h2)).trans rfl
    · rename_i h2
      refine (if_neg (fun z => h2 (hst.symm.trans z))).trans ?_
      dsimp only at h
      split at h
      · rename_i h3
        cases h
        exact (if_pos h3).trans rfl
      · rename_i h3
        refine (if_neg h3).trans ?_
        split at h
        · rename_i h4
          cases h
          exact (if_pos h4).trans rfl
        · rename_i h4
          refine (if_neg h4).trans ?_
          split at h
          · cases h
          · rename_i h5
            cases h
            exact (if_neg h5).trans rfl
structure RaisOk (C : Cfg) (X : Cx) (k : Nat) : Prop where
  ex : ∃ (B newId initId : String) (bmB : List Value), ExcBaseFacts B newId initId bmB ∧ PySem.W.excIn X.K (C.ga k) bmB newId = true
  kp : PySem.W.keepIn X.K (.ref (C.ga k)) = true
  rs : Raises X (.ref (C.ga k))
  xf : C.xf k = none
structure StC (C : Cfg) (A : EA) (cx : Ct) (X : Cx) (Ex : XK) (c c0 : Calls) (G : Nat → Nat → Option Bool) (rz : Nat → Bool) : Prop where
  K : AllC C A cx X Ex c c0 G
  sk : X.env.scope.kind = .function
  po : cx.h.isNone = true → PassesOwn (model X.prog X.w) X.A X.env X.xe
  hn : A.hx = none → cx.h.isNone = true
  rs : ∀ k, rz k = true → RaisOk C X k
section
variable {G : Nat → Nat → Option Bool} {rz : Nat → Bool} {C : Cfg} {A : EA} {cx : Ct} {X : Cx} {Ex : XK} {c c0 : Calls} {n : Nat}
def OkS (G : Nat → Nat → Option Bool) (rz : Nat → Bool) (n : Nat) : Prop := ∀ {C : Cfg} {A : EA} {cx : Ct} {X : Cx} {Ex : XK} {c c0 : Calls}, StC C A cx X Ex c c0 G rz → ∀ {s : Stmt} {s' : S}, erS A rz n s = some s' → ∀ m, PS X s (tS C Ex fun δ S => ex c G m cx s' δ S)
theorem ps_no {s : Stmt} {t : TS} (h : ∀ D σ H, ¬ t D σ H) : PS X s t := ⟨fun _ _ σ H D _ q => (h D σ H q).elim⟩
theorem tS_bad {f : Env → Sto → O} (h : ∀ δ S, f δ S = .bad) (D : Ends) (σ : L2.St) (H : Hp) : ¬ tS C Ex f D σ H := fun ⟨μ, δ, S, _, p⟩ => by
  rw [h] at p
  exact p
theorem ok_block (ih : OkS G rz n) (K : StC C A cx X Ex c c0 G rz) (m : Nat) : ∀ {ss : List Stmt} {ss' : List S}, erB (erS A rz n) ss = some ss' → PSs X ss (tS C Ex fun δ S => exs (ex c G m cx) ss' δ S)
  | [], ss', h => by
    cases h
    refine PSs.imp pss_nil fun D σ H ⟨μ, δ, S, st, p⟩ => ?_
    exact p σ H μ (Ext.refl _ _ _) st
  | s :: ss, ss', h => by
    simp only [erB] at h
    cases e1 : erS A rz n s with
    | none => rw [e1] at h; cases h
    | some c1 =>
      cases e2 : erB (erS A rz n) ss with
      | none => rw [e1, e2] at h; cases h
      | some cs =>
        rw [e1, e2] at h
        cases h
        refine PSs.imp (pss_cons (ih K e1 m) (ok_block ih K m e2)) fun D σ H ⟨μ, δ, S, st, p⟩ => ⟨μ, δ, S, st, ?_⟩
        have p' : PstO C Ex D μ H (match ex c G m cx c1 δ S with
          | .nx δ' S' => exs (ex c G m cx) cs δ' S'
          | o => o) := p
        show PstO C Ex _ μ H (ex c G m cx c1 δ S)
        cases ho : ex c G m cx c1 δ S with
        | nx δ1 S1 =>
          rw [ho] at p'
          intro σ' H' μ' e st'
          exact ⟨μ', δ1, S1, st', PstO.mono p' e⟩
        | rt _ _ => rw [ho] at p'; exact p'
        | bk _ _ => rw [ho] at p'; exact p'
        | ct _ _ => rw [ho] at p'; exact p'
        | ex _ _ _ => rw [ho] at p'; exact p'
        | bad => rw [ho] at p'; exact p'
/-- target = value -/
theorem st_asg {m : Nat} {t : T} {ce : E} {De : Ends} {σ : L2.St} {H : Hp} (h : tS C Ex (fun δ S => ex c G (m + 1) cx (.asg t ce) δ S) De σ H) :
    tAsg (tE C Ex fun δ S => ev c G AF cx ce δ S) (gT C t) De σ H := by
  obtain ⟨μ, δ, S, st, p⟩ := h
  have p' : PstO C Ex De μ H (O.ofR (ev c G AF cx ce δ S) fun d S1 => match T.put S1 t d δ with
      | some δ' => .nx δ' S1
      | none => .bad) := p
  refine ⟨μ, δ, S, st, p'.bind.imp fun v H1 ⟨μ1, S1, d, e1, r1, s1, p1⟩ => ?_⟩
  cases hp : T.put S1 t d δ with
  | none => rw [hp] at p1; exact p1.elim
  | some δ' =>
    rw [hp] at p1
    exact ⟨μ1, δ, S1, d, δ', st.ext e1 s1, r1, hp, fun σ' st' _ => p1 σ' H1 μ1 (Ext.refl _ _ _) st'⟩
end
end IT
end
section
set_option Elab.async false
set_option linter.all false
set_option maxRecDepth 100000
set_option autoImplicit false
namespace IT
open PySem PySem.Spec PyProof.Rows L2
open LamX (Tabs TabS CodeO)
section
variable {G : Nat → Nat → Option Bool} {rz : Nat → Bool} {C : Cfg} {A : EA} {cx : Ct} {X : Cx} {Ex : XK} {c c0 : Calls} {n : Nat}
theorem name_slot (K : StC C A cx X Ex c c0 G rz) {x : Str} {p : Pos} {t : T} (h : erT A 8 (.Name x p) = some t) : ∃ i, t = .n i ∧ X.N[i]? = some x ∧ Loc X.env.scope x ∧ (X.fn x = true ∨ X.env.scope.names.lookup x = some .local) ∧ X.N.Nodup ∧ ∀ j w, C.J = some (j, w) → i ≠ j := by
  unfold erT at h
  split at h
  · rename_i hx
    obtain ⟨i, hi, rfl⟩ := map_some h
    have e := idx_ok hi
    obtain ⟨l, f⟩ := K.K.k.st x hx.1
    refine ⟨i, rfl, by rw [K.K.k.hN]; exact e, l, f, by rw [K.K.k.hN]; exact K.K.k.nd, fun j w ej z => ?_⟩
    obtain ⟨nm, h1, h2⟩ := K.K.k.jj j w ej
    rw [← z, e] at h2
    exact hx.2 (h1.trans h2.symm)
  · cases h
theorem gT_name {C : Cfg} {i : Nat} (hj : ∀ j w, C.J = some (j, w) → i ≠ j) {v : V} {σ : L2.St} {H : Hp} {Q : L2.St → Hp → Prop} (h : gT C (.n i) v σ H Q) : gName i v σ H Q := by
  obtain ⟨μ, δ, S, d, δ', st, r, hp, q⟩ := h
  simp only [T.put] at hp
  cases hp
  exact q _ (st.set r hj) fun vs hv => wipe_set (hv i (by simp [T.slots]))
theorem sw_name {e : Expr} {x : Str} {px : Pos} {line : Nat} {env : PySem.Env} (h : isLC e = false) (ce : (∃ A n c, er A n e = some c)) : swapsWith e (some (.Name x px)) line env = pure false := by
  obtain ⟨A, n, c, h'⟩ := ce
  cases n with
  | zero => cases h'
  | succ n => cases e <;> first | (cases h; done) | rfl | (unfold er at h'; cases h')
theorem sw_tup {e : Expr} {ts : List Expr} {k : Nat} {px : Pos} {line : Nat} {env : PySem.Env} : swapsWithSole [.Tuple ts k px] e line env = pure false := by
  cases e <;> rfl
theorem sw_none {e : Expr} {line : Nat} {env : PySem.Env} (h : isLC e = false) (ce : (∃ A n c, er A n e = some c)) : swapsWith e none line env = pure false := by
  obtain ⟨A, n, c, h'⟩ := ce
  cases n with
  | zero => cases h'
  | succ n => cases e <;> first | (cases h; done) | rfl | (unfold er at h'; cases h')
/-- name = [..] -/
theorem ok_setLc (K : StC C A cx X Ex c c0 G rz) (hh : cx.h.isNone = true) {x : Str} {px : Pos} {t : T} {ce : E} {elt : Expr} {gs : List Comprehension} {scope : Scope} {lpos pos : Pos} (ht : erT A 8 (.Name x px) = some t) (he : er A EF (.ListComp elt gs scope lpos) = some ce) (m : Nat) :
    PS X (.Assign [.Name x px] (.ListComp elt gs scope lpos) pos) (tS C Ex fun δ S => ex c G (m + 1) cx (.asg t ce) δ S) := by
  obtain ⟨i, rfl, hi, hl, hf, hnd, hj⟩ := name_slot K ht
  have plain : swapsWith (.ListComp elt gs scope lpos) (some (.Name x px)) pos.line X.env = pure false → PS X (.Assign [.Name x px] (.ListComp elt gs scope lpos) pos) (tS C Ex fun δ S => ex c G (m + 1) cx (.asg (.n i) ce) δ S) := fun hs =>
    PS.imp (ps_set hnd hi hl ((er_ok EF K.K he).1 AF) hs hf) fun D σ H h => by
      obtain ⟨μ, δ, S, st, p⟩ := st_asg h
      exact ⟨μ, δ, S, st, p.imp fun b H' q => gT_name hj q⟩
  by_cases hsw : (X.env.blockKind == .function && X.env.kindOf x == some .local && px.line == lpos.line && !(scope.names.any fun (n, k) => n == x && (k == .local || k == .cell))) = true
  · have hs : swapsWith (.ListComp elt gs scope lpos) (some (.Name x px)) pos.line X.env = pure true := by
      show (pure (X.env.blockKind == .function && X.env.kindOf x == some .local && px.line == lpos.line && !(scope.names.any fun (n, k) => n == x && (k == .local || k == .cell))) : Sem Bool) = pure true
      rw [hsw]
    have hloc : X.env.scope.names.lookup x = some .local := by
      simp only [Bool.and_eq_true, beq_iff_eq] at hsw
      exact hsw.1.1.2
    have he' := he
    unfold er at he'
    split at he'
    · split at he'
      · rename_i tg iter ifs hb
        split at he'
        · rename_i tt it cel ht1 hi1 he1
          split at he'
          · rename_i hs1
            have core : ∀ {cq : Option E}, (match cq with
                | none => ifs = []
                | some q => ∃ e, ifs = [e] ∧ er (A.blk scope) 39 e = some q) → ce = .lc (A.mu lpos) cel tt it cq ((ownOf A.N scope.names).map (·.2)) →
                PS X (.Assign [.Name x px] (.ListComp elt [⟨tg, iter, ifs, 0⟩] scope lpos) pos) (tS C Ex fun δ S => ex c G (m + 1) cx (.asg (.n i) ce) δ S) := fun {cq} hq hce => by
              have ih : OkE G 39 := er_ok 39
              have K := K.K
              have hbl : BlkOk X.N X.env.scope scope (ownOf A.N scope.names) := by
                rw [K.k.hN, K.k.hs]
                exact blkOk_by hb.1
              have hto : ∀ i ∈ T.slots tt, i ∈ (ownOf A.N scope.names).map (·.2) := fun i hi => by
                have := List.all_eq_true.mp hs1 i hi
                simpa using this
              have hj' : ∀ j v, C.J = some (j, v) → j ∉ (ownOf A.N scope.names).map (·.2) := fun j v e hm => by
                obtain ⟨q, hq, rfl⟩ := List.mem_map.mp hm
                have h1 := List.all_eq_true.mp hb.2 q hq
                simp only [decide_eq_true_eq] at h1
                obtain ⟨nm, h2, h3⟩ := K.k.jj _ v e
                refine h1 ?_
                have e1 : idx A.N nm = some q.2 := by
                  have e2 := own_slots hq
                  have e3 := idx_ok e2
                  rw [h3] at e3
                  rw [Option.some.inj e3]
                  exact e2
                unfold EA.hs
                rw [h2]
                exact e1.symm
              obtain ⟨hI, hF⟩ := ok_items ih K 63 (tg := tg) hi1
              have B := fun av s H D cl fp => AllC.blk K hh scope av s H D cl fp
              have pg : ∀ (s : Shared) (H : Hp) (D : Addr) (cl : List (Str × Addr)) (fp : List Addr), PG (X.blk s H scope (compEnvC scope cl D X.env) fp) tg (fun v σ H Q => ∃ av, gT (C.a av) tt v σ H Q) := fun s H D cl fp => PG.ex fun av => s_put (B av s H D cl fp).k ht1
              have pe : ∀ (s : Shared) (H : Hp) (D : Addr) (cl : List (Str × Addr)) (fp : List Addr), PE (X.blk s H scope (compEnvC scope cl D X.env) fp) elt (fun σ H Q => ∃ av, tE (C.a av) (fun _ _ _ => False) (fun δ S => ev c G 63 cx cel δ S) σ H Q) := fun s H D cl fp => PE.ex fun av => (ih (B av s H D cl fp) he1).1 63
              have pt : ∀ (s : Shared) (H : Hp) (D : Addr) (cl : List (Str × Addr)) (fp : List Addr), PTs (X.blk s H scope (compEnvC scope cl D X.env) fp) ifs (ttE C (cq.map fun t δ S => tests (fun e S => ev c G 63 cx e δ S) 63 t S)) := fun s H D cl fp => by
                cases cq with
                | none => rw [hq]; exact pts_nil
                | some q =>
                  obtain ⟨e, rfl, hq⟩ := hq
                  exact PTs.ex fun av => pts_one ((ih (B av s H D cl fp) hq).2 63 63)
              have hsw2 : swapsWith (.ListComp elt [⟨tg, iter, ifs, 0⟩] scope lpos) (some (.Name x px)) pos.line X.env = pure true := hs
              refine PS.imp (ps_setLc (K.k.cal hh) hnd hi hloc hsw2 hI hbl pg pt pe (hF _)) fun D σ H h => ?_
              have e : (fun δ S => ev c G AF cx (.lc (A.mu lpos) cel tt it cq ((ownOf A.N scope.names).map (·.2))) δ S) = lcR (fun δ S => items (fun e S => ev c G 63 cx e δ S) it S) (A.mu lpos) tt (cq.map fun t δ S => tests (fun e S => ev c G 63 cx e δ S) 63 t S) (fun δ S => ev c G 63 cx cel δ S) ((ownOf A.N scope.names).map (·.2)) := by
                funext δ S
                show ev c G (63 + 1) cx _ δ S = _
                rw [ev]
                simp only [hh, if_true]
              obtain ⟨μ, δ, S, st, p⟩ := st_asg h
              rw [hce] at p
              have p2 : tE C Ex (lcR (fun δ S => items (fun e S => ev c G 63 cx e δ S) it S) (A.mu lpos) tt (cq.map fun t δ S => tests (fun e S => ev c G 63 cx e δ S) 63 t S) (fun δ S => ev c G 63 cx cel δ S) ((ownOf A.N scope.names).map (·.2))) σ H (fun v H1 => gName i v σ H1 D.nx) := by
                rw [← e]
                exact ⟨μ, δ, S, st, p.imp fun b H' q => gT_name hj q⟩
              exact lc_sound hto hj' p2
            split at he'
            · cases he'
              exact core (cq := none) rfl rfl
            · split at he'
              · rename_i hq
                cases he'
                exact core (cq := some _) ⟨_, rfl, hq⟩ rfl
              · cases he'
            · cases he'
          · cases he'
        · cases he'
      · cases he'
    · cases he'
  · refine plain ?_
    show (pure (X.env.blockKind == .function && X.env.kindOf x == some .local && px.line == lpos.line && !(scope.names.any fun (n, k) => n == x && (k == .local || k == .cell))) : Sem Bool) = pure false
    rw [Bool.not_eq_true] at hsw
    rw [hsw]
/-- a, b = x, y -/
theorem ok_par (K : StC C A cx X Ex c c0 G rz) (hh : cx.h.isNone = true) {ts vs : List Expr} {k1 k2 : Nat} {p1 p2 pos : Pos} {ns : List Str} {t : T} {ce : E} (hw : swB A.sc ts vs = some (some ns)) (hp : swP ts vs ns = true) (hl : (ts.all fun e => match e with
    | .Name x _ => isLocal A.sc x
    | _ => false) = true) (ht : erT A 8 (.Tuple ts k1 p1) = some t) (he : er A EF (.Tuple vs k2 p2) = some ce) (m : Nat) :
    PS X (.Assign [.Tuple ts k1 p1] (.Tuple vs k2 p2) pos) (tS C Ex fun δ S => ex c G (m + 1) cx (.asg t ce) δ S) := by
  have hw' : swappedStores [.Tuple ts k1 p1] (.Tuple vs k2 p2) X.env = pure (some ns) := swB_ok K.sk (by rw [K.K.k.hs]; exact hw)
  have loc : ∀ {x}, isLocal A.sc x = true → X.env.scope.names.lookup x = some .local := fun {x} h => by
    rw [K.K.k.hs]
    unfold isLocal at h
    split at h
    · assumption
    · cases h
  unfold er at he
  obtain ⟨cs, hcs, rfl⟩ := map_some he
  have ha := ok_args (er_ok 39) K.K 63 hcs
  unfold erT at ht
  obtain ⟨gs, hgs, rfl⟩ := map_some ht
  -- what the evaluator does
  have run : ∀ {De : Ends} {σ : L2.St} {H : Hp}, tS C Ex (fun δ S => ex c G (m + 1) cx (.asg (.t gs) (.tup cs)) δ S) De σ H →
      tA C Ex (fun δ S => evs (fun e S => ev c G 63 cx e δ S) cs S) σ H fun xs H1 => ∃ μ1 S1 ds δ δ', Stt C μ1 H1 S1 σ δ ∧ RepL C μ1 H1 xs ds ∧ T.puts S1 gs ds δ = some δ' ∧ ∀ σ', Stt C μ1 H1 S1 σ' δ' → De.nx σ' H1 := fun {De σ H} h => by
    obtain ⟨μ, δ, S, st, p⟩ := h
    have p' : PstO C Ex De μ H (O.ofR ((evs (fun e S => ev c G 63 cx e δ S) cs S).bind fun ds S1 => if ds.length ≤ sizeLine then .ok (.tup ds) S1 else .bad) fun d S1 => match T.put S1 (.t gs) d δ with
        | some δ' => .nx δ' S1
        | none => .bad) := p
    refine ⟨μ, δ, S, st, ?_⟩
    show Pst C Ex μ H (evs (fun e S => ev c G 63 cx e δ S) cs S) (RepL C) _
    cases hv : evs (fun e S => ev c G 63 cx e δ S) cs S with
    | bad => rw [hv] at p'; exact p'.elim
    | ex _ _ _ => rw [hv] at p'; exact p'
    | ok ds S1 =>
      rw [hv] at p'
      have p2 : PstO C Ex De μ H (O.ofR (if ds.length ≤ sizeLine then .ok (.tup ds) S1 else .bad) fun d S1 => match T.put S1 (.t gs) d δ with
          | some δ' => .nx δ' S1
          | none => .bad) := p'
      by_cases hz : ds.length ≤ sizeLine
      · rw [if_pos hz] at p2
        have p3 : PstO C Ex De μ H (match T.puts S1 gs ds δ with
          | some δ' => .nx δ' S1
          | none => .bad) := p2
        intro xs H1 μ1 e1 r1 s1
        cases hp : T.puts S1 gs ds δ with
        | none => rw [hp] at p3; exact p3.elim
        | some δ' =>
          rw [hp] at p3
          exact ⟨μ1, S1, ds, δ, δ', st.ext e1 s1, r1, hp, fun σ' st' => p3 σ' H1 μ1 e1 st'⟩
      · rw [if_neg hz] at p2
        exact p2.elim
  have slot : ∀ {q : Nat} {e : Expr} {g : T}, erT A (q + 1) e = some g → ∀ {x p}, e = .Name x p → ∃ i, g = .n i ∧ X.N[i]? = some x ∧ ∀ j w, C.J = some (j, w) → i ≠ j := fun {q e g} h {x p} ee => by
    subst ee
    unfold erT at h
    split at h
    · rename_i hx
      obtain ⟨i, hi, rfl⟩ := map_some h
      have e := idx_ok hi
      refine ⟨i, rfl, by rw [K.K.k.hN]; exact e, fun j w ej z => ?_⟩
      obtain ⟨nm, h1, h2⟩ := K.K.k.jj j w ej
      rw [← z, e] at h2
      exact hx.2 (h1.trans h2.symm)
    · cases h
  have hND : X.N.Nodup := by rw [K.K.k.hN]; exact K.K.k.nd
  have ne : ∀ {x y : Str} {i j : Nat}, X.N[i]? = some x → X.N[j]? = some y → x ≠ y → i ≠ j := fun {x y i j} h1 h2 hn z => hn (by
    rw [z, h2] at h1
    exact (Option.some.inj h1).symm)
  unfold swP at hp
  split at hp
  · rename_i x px y py a b x' y'
    simp only [Bool.and_eq_true, decide_eq_true_eq, Bool.not_eq_true', decide_eq_false_iff_not] at hp
    obtain ⟨⟨rfl, rfl⟩, hxy⟩ := hp
    simp only [List.all_cons, List.all_nil, Bool.and_true, Bool.and_eq_true] at hl
    rw [erTs] at hgs
    cases q1 : erT A 6 (.Name x px) with
    | none => rw [q1] at hgs; cases hgs
    | some g1 =>
      rw [q1, erTs] at hgs
      cases q2 : erT A 5 (.Name y py) with
      | none => rw [q2] at hgs; cases hgs
      | some g2 =>
        rw [q2, erTs] at hgs
        cases hgs
        obtain ⟨i, rfl, hi, ji⟩ := slot q1 rfl
        obtain ⟨j, rfl, hj, jj⟩ := slot q2 rfl
        refine PS.imp (ps_par (K.K.k.cal hh) hND hi hj (ne hi hj hxy) (loc hl.1) (loc hl.2) ha hw' sw_tup) fun D σ H h => ?_
        obtain ⟨μ, δ, S, st, p⟩ := run h
        refine ⟨μ, δ, S, st, p.imp fun xs H1 ⟨μ1, S1, ds, δ1, δ', st1, r1, hp, q⟩ => ?_⟩
        have hlen := puts_len hp
        cases r1 with
        | nil => simp at hlen
        | cons r t =>
          cases t with
          | nil => simp at hlen
          | cons r' t' =>
            cases t' with
            | cons _ _ => simp at hlen
            | nil =>
              simp only [T.puts, T.put] at hp
              cases hp
              exact ⟨_, _, rfl, q _ ((st1.set r ji).set r' jj)⟩
  · rename_i x px y py z pz a b d x' y' z'
    simp only [Bool.and_eq_true, decide_eq_true_eq, Bool.not_eq_true', decide_eq_false_iff_not] at hp
    obtain ⟨⟨⟨⟨⟨rfl, rfl⟩, rfl⟩, hxy⟩, hxz⟩, hyz⟩ := hp
    simp only [List.all_cons, List.all_nil, Bool.and_true, Bool.and_eq_true] at hl
    rw [erTs] at hgs
    cases q1 : erT A 6 (.Name x px) with
    | none => rw [q1] at hgs; cases hgs
    | some g1 =>
      rw [q1, erTs] at hgs
      cases q2 : erT A 5 (.Name y py) with
      | none => rw [q2] at hgs; cases hgs
      | some g2 =>
        rw [q2, erTs] at hgs
        cases q3 : erT A 4 (.Name z pz) with
        | none => rw [q3] at hgs; cases hgs
        | some g3 =>
          rw [q3, erTs] at hgs
          cases hgs
          obtain ⟨i, rfl, hi, ji⟩ := slot q1 rfl
          obtain ⟨j, rfl, hj, jj⟩ := slot q2 rfl
          obtain ⟨l, rfl, hk, jl⟩ := slot q3 rfl
          refine PS.imp (ps_par3 (K.K.k.cal hh) hND hi hj hk (ne hi hj hxy) (ne hi hk hxz) (ne hj hk hyz) (loc hl.1) (loc hl.2.1) (loc hl.2.2) ha hw' sw_tup) fun D σ H h => ?_
          obtain ⟨μ, δ, S, st, p⟩ := run h
          refine ⟨μ, δ, S, st, p.imp fun xs H1 ⟨μ1, S1, ds, δ1, δ', st1, r1, hp, q⟩ => ?_⟩
          have hlen := puts_len hp
          cases r1 with
          | nil => simp at hlen
          | cons r t =>
            cases t with
            | nil => simp at hlen
            | cons r' t' =>
              cases t' with
              | nil => simp at hlen
              | cons r'' t'' =>
                cases t'' with
                | cons _ _ => simp at hlen
                | nil =>
                  simp only [T.puts, T.put] at hp
                  cases hp
                  exact ⟨_, _, _, rfl, q _ (((st1.set r ji).set r' jj).set r'' jl)⟩
  · cases hp
end
end IT
end
section
set_option Elab.async false
set_option linter.all false
set_option maxRecDepth 100000
set_option autoImplicit false
namespace IT
open PySem PySem.Spec PyProof.Rows L2
open LamX (Tabs TabS CodeO)
section
variable {G : Nat → Nat → Option Bool} {rz : Nat → Bool} {C : Cfg} {A : EA} {cx : Ct} {X : Cx} {Ex : XK} {c c0 : Calls} {n : Nat}
/-! ### for -/
def forF (t : T) (f : Env → Sto → O) (x : D) (δ : Env) (S : Sto) : O := match T.put S t x δ with
  | some δ' => f δ' S
  | none => .bad
theorem for_sound {fi : Env → Sto → R (List D × List (Nat × List D))} {t : T} {f : Env → Sto → O} {De : Ends} {σ : L2.St} {H : Hp}
    (h : tS C Ex (fun δ S => .ofR (fi δ S) fun q S1 => forl (stands q.2) (forF t f) q.1 δ S1) De σ H) : tFor (tIt C Ex fi) (gT C t) (tS C Ex f) De σ H := by
  obtain ⟨μ, δ, S, st, p⟩ := h
  have p0 : PstO C Ex De μ H (O.ofR (fi δ S) fun q S1 => forl (stands q.2) (forF t f) q.1 δ S1) := p
  refine ⟨μ, δ, S, st, p0.bind.imp fun J H1 ⟨μ1, S1, q, e1, iR, s1, p1⟩ => ?_⟩
  have iR' := iR C.av fun a xs _ h => h
  refine ⟨fun i m σ' H' => ∃ μ' δ' S', Ext C.T μ1 H1 μ' H' ∧ Stt C μ' H' S' σ' δ' ∧ m = q.1.length - i ∧ PstO C Ex De μ' H' (forl (stands q.2) (forF t f) (q.1.drop i) δ' S'), ⟨_, μ1, δ, S1, Ext.refl _ _ _, st.ext e1 s1, rfl, p1⟩, ?_⟩
  rintro i m σ' H' ⟨μ', δ', S', ex, st', rfl, p'⟩
  cases hd : q.1.drop i with
  | nil =>
    rw [hd, forl] at p'
    by_cases hg : stands q.2 S' = true
    · rw [if_pos hg] at p'
      have hi : q.1.length ≤ i := by
        have := congrArg List.length hd
        simp at this
        omega
      exact .inl ⟨(iR' μ' H' S' ex st'.sto hg).1 i hi, p' σ' H' μ' (Ext.refl _ _ _) st'⟩
    · rw [if_neg hg] at p'
      exact p'.elim
  | cons d r =>
    rw [hd] at p'
    have hlt : i < q.1.length := by
      have := congrArg List.length hd
      simp at this
      omega
    have hx : q.1[i]? = some d := by
      have := List.drop_eq_getElem_cons hlt
      rw [hd] at this
      rw [List.getElem?_eq_getElem hlt]
      exact congrArg some (List.cons.inj this).1.symm
    have hr : q.1.drop (i + 1) = r := by
      have := List.drop_eq_getElem_cons hlt
      rw [hd] at this
      exact (List.cons.inj this).2.symm
    rw [forl] at p'
    by_cases hg : stands q.2 S' = true
    · rw [if_pos hg] at p'
      obtain ⟨go, yl⟩ := (iR' μ' H' S' ex st'.sto hg).2 i d hx
      refine .inr ⟨go, fun σ'' H'' => ∃ μ'' δ'' S'', Ext C.T μ1 H1 μ'' H'' ∧ Stt C μ'' H'' S'' σ'' δ'' ∧ PstO C Ex De μ'' H'' (forl (stands q.2) (forF t f) (q.1.drop (i + 1)) δ'' S''), fun σ'' H'' ⟨a1, a2, a3, a4, a5, a6⟩ => ⟨_, by omega, a1, a2, a3, a4, a5, rfl, a6⟩, fun x H'' y => ?_⟩
      obtain ⟨ey, ry, sy⟩ := yl x H'' y
      cases hp : T.put S' t d δ' with
      | none =>
        exfalso
        have : forF t f d δ' S' = .bad := by unfold forF; rw [hp]
        rw [this] at p'
        exact p'
      | some δ2 =>
        have hf : forF t f d δ' S' = f δ2 S' := by unfold forF; rw [hp]
        rw [hf] at p'
        refine ⟨μ', δ', S', d, δ2, st'.ext ey sy, ry, hp, fun σ2 st2 _ => ⟨μ', δ2, S', st2, ?_⟩⟩
        cases ho : f δ2 S' with
        | nx δ3 S3 =>
          rw [ho] at p'
          have p3 : PstO C Ex De μ' H' (forl (stands q.2) (forF t f) r δ3 S3) := p'
          intro σ3 H3 μ3 e3 st3
          exact ⟨μ3, δ3, S3, ex.trans (ey.trans e3), st3, by rw [hr]; exact p3.mono (ey.trans e3)⟩
        | ct δ3 S3 =>
          rw [ho] at p'
          have p3 : PstO C Ex De μ' H' (forl (stands q.2) (forF t f) r δ3 S3) := p'
          intro σ3 H3 μ3 e3 st3
          exact ⟨μ3, δ3, S3, ex.trans (ey.trans e3), st3, by rw [hr]; exact p3.mono (ey.trans e3)⟩
        | bk δ3 S3 =>
          rw [ho] at p'
          have p3 : PstO C Ex De μ' H' (.nx δ3 S3) := p'
          intro σ3 H3 μ3 e3 st3
          exact p3 σ3 H3 μ3 (ey.trans e3) st3
        | rt d3 S3 =>
          rw [ho] at p'
          have p3 : PstO C Ex De μ' H' (.rt d3 S3) := p'
          intro v H3 μ3 e3
          exact p3 v H3 μ3 (ey.trans e3)
        | ex j z S3 =>
          rw [ho] at p'
          have p3 : PstO C Ex De μ' H' (.ex j z S3) := p'
          intro cls dd H3 μ3 e3
          exact p3 cls dd H3 μ3 (ey.trans e3)
        | bad => rw [ho] at p'; exact p'
    · rw [if_neg hg] at p'
      exact p'.elim
/-! ### while -/
theorem while_sound {t : Env → Sto → R Bool} {f : Env → Sto → O} {De : Ends} {σ : L2.St} {H : Hp} {w : Nat} (h : tS C Ex (fun δ S => whl t f w δ S) De σ H) : tWhile (tB' C Ex t) (tS C Ex f) De σ H := by
  obtain ⟨μ, δ, S, st, p⟩ := h
  refine ⟨fun m σ' H' => ∃ μ' δ' S', Stt C μ' H' S' σ' δ' ∧ PstO C Ex De μ' H' (whl t f m δ' S'), ⟨w, μ, δ, S, st, p⟩, ?_⟩
  rintro m σ' H' ⟨μ', δ', S', st', p'⟩
  cases m with
  | zero => exact p'.elim
  | succ m =>
    refine ⟨μ', δ', S', st', ?_⟩
    rw [whl] at p'
    cases ht : t δ' S' with
    | bad => rw [ht] at p'; exact p'.elim
    | ex j z S1 => rw [ht] at p'; exact p'
    | ok b S1 =>
      rw [ht] at p'
      intro b' H1 μ1 e1 rb s1
      have eb : b' = b := rb
      subst eb
      have st1 := st'.ext e1 s1
      cases b' with
      | false =>
        refine iteF ?_
        have p2 : PstO C Ex De μ' H' (.nx δ' S1) := p'
        exact p2 σ' H1 μ1 e1 st1
      | true =>
        refine iteT ⟨fun σ2 H2 => ∃ μ' δ' S', Stt C μ' H2 S' σ2 δ' ∧ PstO C Ex De μ' H2 (whl t f m δ' S'), fun σ2 H2 q => ⟨m, Nat.lt_succ_self _, q⟩, μ1, δ', S1, st1, ?_⟩
        have p2 : PstO C Ex De μ' H' (match f δ' S1 with
          | .nx δ' S' => whl t f m δ' S'
          | .ct δ' S' => whl t f m δ' S'
          | .bk δ' S' => .nx δ' S'
          | o => o) := p'
        cases ho : f δ' S1 with
        | nx δ3 S3 =>
          rw [ho] at p2
          intro σ3 H3 μ3 e3 st3
          exact ⟨μ3, δ3, S3, st3, PstO.mono p2 (e1.trans e3)⟩
        | ct δ3 S3 =>
          rw [ho] at p2
          intro σ3 H3 μ3 e3 st3
          exact ⟨μ3, δ3, S3, st3, PstO.mono p2 (e1.trans e3)⟩
        | bk δ3 S3 =>
          rw [ho] at p2
          intro σ3 H3 μ3 e3 st3
          exact p2 σ3 H3 μ3 (e1.trans e3) st3
        | rt d3 S3 =>
          rw [ho] at p2
          intro v H3 μ3 e3
          exact p2 v H3 μ3 (e1.trans e3)
        | ex j z S3 =>
          rw [ho] at p2
          intro cls dd H3 μ3 e3
          exact p2 cls dd H3 μ3 (e1.trans e3)
        | bad => rw [ho] at p2; exact p2.elim
/-! ### all of them -/
theorem erS_ok (n : Nat) : OkS G rz n := by
  induction n with
  | zero =>
    intro C A cx X Ex c c0 K s s' h
    cases h
  | succ n ih =>
    intro C A cx X Ex c c0 K s s' h m
    cases m with
    | zero => exact ps_no (tS_bad fun δ S => rfl)
    | succ m =>
      cases s
      case Assign ts e pos =>
        unfold erS at h
        split at h
        · rename_i o i tpos
          split at h
          · rename_i co ci ce ho hi he
            cases h
            have hsw : swapsWithSole [.Subscript o i tpos] e pos.line X.env = pure false := by cases e <;> rfl
            have hst : swappedStores [.Subscript o i tpos] e X.env = pure none := by cases e <;> rfl
            have hsl : ∀ v, assign (.Subscript o i tpos) X.env v = (do
                let ov ← holding [v] (eval o X.env)
                let iv ← holding [v, ov] (eval i X.env)
                standAt tpos
                holding [v, ov, iv] (setItem ov iv v)
                release [v, ov, iv] []) := fun v => by
              cases i <;> first | rfl | (exfalso; unfold er at hi; cases hi)
            refine PS.imp (ps_asg ((er_ok EF K.K he).1 AF) (pg_sub ((er_ok EF K.K ho).1 AF) ((er_ok EF K.K hi).1 AF) set_list hsl) hsw hst) fun De σ H ⟨μ, δ, S, st, p⟩ => ?_
            have p0 : PstO C Ex De μ H (.ofR (ev c G AF cx ce δ S) fun y S1 => .ofR (ev c G AF cx co δ S1) fun x S2 => .ofR (ev c G AF cx ci δ S2) fun j S3 => match setAt x j y S3 with
              | some S4 => .nx δ S4
              | none => .bad) := p
            refine ⟨μ, δ, S, st, p0.bind.imp fun y H1 ⟨μ1, S1, d1, e1, r1, s1, p1⟩ => ?_⟩
            refine ⟨μ1, δ, S1, st.ext e1 s1, p1.bind.imp fun x H2 ⟨μ2, S2, d2, e2, r2, s2, p2⟩ => ?_⟩
            refine ⟨μ2, δ, S2, st.ext (e1.trans e2) s2, p2.bind.imp fun j H3 ⟨μ3, S3, d3, e3, r3, s3, p3⟩ => ?_⟩
            cases q : setAt d2 d3 d1 S3 with
            | none => rw [q] at p3; exact p3.elim
            | some S4 =>
              rw [q] at p3
              refine setAt_ok s3 (r2.ext e3) r3 ((r1.ext e2).ext e3) q fun H' e4 s4 => p3 σ H' μ3 e4 ?_
              exact st.ext (e1.trans (e2.trans (e3.trans e4))) s4
          · cases h
        · rename_i tg _
          split at h
          · rename_i hok
            split at h
            · rename_i t ce ht he
              cases h
              cases tg with
              | Name x px =>
                cases hl : isLC e with
                | true =>
                  cases e <;> first | (cases hl; done) | skip
                  have hx : A.hx = none := by simpa [okAsg] using hok
                  exact ok_setLc K (K.hn hx) ht he m
                | false =>
                  obtain ⟨i, rfl, hi, hlc, hf, hnd, hj⟩ := name_slot K ht
                  refine PS.imp (ps_set hnd hi hlc ((er_ok EF K.K he).1 AF) (sw_name hl ⟨A, EF, ce, he⟩) hf) fun D σ H h => ?_
                  obtain ⟨μ, δ, S, st, p⟩ := st_asg h
                  exact ⟨μ, δ, S, st, p.imp fun b H' q => gT_name hj q⟩
              | Tuple ts k1 p1 =>
                have pl : swappedStores [.Tuple ts k1 p1] e X.env = pure none → PS X (.Assign [.Tuple ts k1 p1] e pos) (tS C Ex fun δ S => ex c G (m + 1) cx (.asg t ce) δ S) := fun hst =>
                  PS.imp (ps_asg ((er_ok EF K.K he).1 AF) (s_put K.K.k ht) sw_tup hst) fun D σ H h => st_asg h
                cases e with
                | Tuple vs k2 p2 =>
                  simp only [okAsg] at hok
                  split at hok
                  · rename_i hw
                    exact pl (swB_ok K.sk (by rw [K.K.k.hs]; exact hw))
                  · rename_i ns hw
                    simp only [Bool.and_eq_true] at hok
                    exact ok_par K (K.hn (by simpa using hok.1.1)) hw hok.1.2 hok.2 ht he m
                  · cases hok
                | _ => exact pl rfl
              | _ => cases hok
            · cases h
          · cases h
        · cases h
      case Expr e pos =>
        unfold erS at h
        split at h
        · cases h
        · rename_i hl
          obtain ⟨ce, he, rfl⟩ := map_some h
          rw [Bool.not_eq_true] at hl
          refine PS.imp (ps_expr ((er_ok EF K.K he).1 AF) (sw_none hl ⟨A, EF, ce, he⟩)) fun De σ H ⟨μ, δ, S, st, p⟩ => ?_
          have p0 : PstO C Ex De μ H (.ofR (ev c G AF cx ce δ S) fun _ S1 => .nx δ S1) := p
          exact ⟨μ, δ, S, st, p0.bind.imp fun y H1 ⟨μ1, S1, d1, e1, r1, s1, p1⟩ => p1 σ H1 μ1 (Ext.refl _ _ _) (st.ext e1 s1)⟩
      case If t a b pos =>
        unfold erS at h
        split at h
        · rename_i ct ca cb ht ha hb
          cases h
          refine PS.imp (ps_if ((er_ok EF K.K ht).2 AF AF) (ok_block ih K m ha) (ok_block ih K m hb)) fun De σ H ⟨μ, δ, S, st, p⟩ => ?_
          have p0 : PstO C Ex De μ H (.ofR (tests (fun e S => ev c G AF cx e δ S) AF ct S) fun k S1 => if k = true then exs (ex c G m cx) ca δ S1 else exs (ex c G m cx) cb δ S1) := p
          refine ⟨μ, δ, S, st, p0.bind.imp fun y H1 ⟨μ1, S1, d1, e1, r1, s1, p1⟩ => ?_⟩
          have er : y = d1 := r1
          subst er
          cases y with
          | true => exact iteT ⟨μ1, δ, S1, st.ext e1 s1, p1⟩
          | false => exact iteF ⟨μ1, δ, S1, st.ext e1 s1, p1⟩
        · cases h
      case For tg it b els pos =>
        unfold erS at h
        split at h
        · split at h
          · rename_i hx
            split at h
            · rename_i t ci cb ht hi hb
              cases h
              have hh := K.hn hx
              obtain ⟨hI, hF⟩ := ok_items (er_ok EF) K.K AF (tg := tg) hi
              refine PS.imp (ps_for (K.po hh) (K.K.k.cal hh) hI (s_put K.K.k ht) (ok_block ih K m hb) (hF _)) fun De σ H h => for_sound ?_
              have e : (fun δ S => ex c G (m + 1) cx (.for_ t ci cb) δ S) = fun δ S => .ofR (items (fun e S => ev c G AF cx e δ S) ci S) fun q S1 => forl (stands q.2) (forF t fun δ S => exs (ex c G m cx) cb δ S) q.1 δ S1 := by
                funext δ S
                rw [ex]
                simp only [hh, if_true]
                rfl
              rw [e] at h
              exact h
            · cases h
          · cases h
        · cases h
      case While t b els pos =>
        unfold erS at h
        split at h
        · split at h
          · rename_i hx
            split at h
            · rename_i ct cb ht hb
              cases h
              have hh := K.hn hx
              refine PS.imp (ps_while (K.po hh) ((er_ok EF K.K ht).2 AF AF) (ok_block ih K m hb)) fun De σ H h => while_sound (w := WF) ?_
              have e : (fun δ S => ex c G (m + 1) cx (.whl ct cb) δ S) = fun δ S => whl (fun δ S => tests (fun e S => ev c G AF cx e δ S) AF ct S) (fun δ S => exs (ex c G m cx) cb δ S) WF δ S := by
                funext δ S
                rw [ex]
                simp only [hh, if_true]
              rw [e] at h
              exact h
            · cases h
          · cases h
        · cases h
      case Return e pos =>
        unfold erS at h
        split at h
        · cases h
          exact PS.imp ps_retN fun De σ H ⟨μ, δ, S, st, p⟩ => p .non H μ (Ext.refl _ _ _) .non st.sto
        · obtain ⟨ce, he, rfl⟩ := map_some h
          refine PS.imp (ps_ret ((er_ok EF K.K he).1 AF)) fun De σ H ⟨μ, δ, S, st, p⟩ => ?_
          have p0 : PstO C Ex De μ H (.ofR (ev c G AF cx ce δ S) fun d S1 => .rt d S1) := p
          exact ⟨μ, δ, S, st, p0.bind.imp fun y H1 ⟨μ1, S1, d1, e1, r1, s1, p1⟩ => p1 y H1 μ1 (Ext.refl _ _ _) r1 s1⟩
      case Break pos =>
        cases h
        exact PS.imp ps_break fun De σ H ⟨μ, δ, S, st, p⟩ => p σ H μ (Ext.refl _ _ _) st
      case Continue pos =>
        cases h
        exact PS.imp ps_continue fun De σ H ⟨μ, δ, S, st, p⟩ => p σ H μ (Ext.refl _ _ _) st
      case Pass pos =>
        cases h
        exact PS.imp ps_pass fun De σ H ⟨μ, δ, S, st, p⟩ => p σ H μ (Ext.refl _ _ _) st
      case Raise e cause pos =>
        unfold erS at h
        split at h
        · split at h
          · rename_i hg
            split at h
            · rename_i k hG
              split at h
              · rename_i hz
                cases h
                obtain ⟨d1, d2, d3⟩ := dbg_ok (x := _) (by rw [hg.2]; exact Bool.false_ne_true)
                obtain ⟨⟨B, newId, initId, bmB, F, hx⟩, kp, rs, xf⟩ := K.rs k hz
                cases hh : cx.h.isNone with
                | false => exact ps_no (tS_bad fun δ S => by rw [ex]; simp only [hh, Bool.false_eq_true, if_false])
                | true =>
                  obtain ⟨W, tk, hW⟩ := K.K.kc.tk hh
                  refine ⟨fun pins s σ H De I ⟨μ, δ, S, st, p⟩ => (L2N.ps_raise (K.K.k.cal hh) tk (L2N.pmk_own F hx (K.K.k.gl _ _ hG) kp rs (K.K.k.gl' hg.1) d1)).run pins s σ H De I ?_⟩
                  have p0 : PstO C Ex De μ H (.ex k .non S) := by
                    have e : ex c G (m + 1) cx (.rai k) δ S = .ex k .non S := by rw [ex]; simp only [hh, if_true]
                    rw [← e]
                    exact p
                  refine hW _ _ _ _ I.len (p0 _ _ H μ (Ext.refl _ _ _) ⟨rfl, ?_⟩ st.sto)
                  rw [xf]
                  exact ⟨rfl, rfl⟩
              · cases h
            · cases h
          · cases h
        · cases h
          exact ps_no (tS_bad fun δ S => by rw [ex])
      all_goals (unfold erS at h; cases h)
end
end IT
end
section
set_option Elab.async false
set_option linter.all false
set_option maxRecDepth 100000
set_option autoImplicit false
namespace IT
open PySem PySem.Spec PyProof.Rows L2
open LamX (Tabs TabS CodeO ExtN tLam)
/-! ### from one J to another -/
section
variable {C C' : Cfg} {E : XK} {μ : List Addr} {H : Hp}
structure SameC (C C' : Cfg) : Prop where
  K : C.K = C'.K
  ga : C.ga = C'.ga
  T : C.T = C'.T
  xf : C.xf = C'.xf
  av : C.av = C'.av
theorem SameC.symm (h : SameC C C') : SameC C' C := ⟨h.K.symm, h.ga.symm, h.T.symm, h.xf.symm, h.av.symm⟩
theorem SameC.avs (h : SameC C C') : ∀ a (xs : List V), H a = some (.lst xs) → a ∉ C.av → a ∉ C'.av := fun a _ _ n => by rw [← h.av]; exact n
theorem SameC.rep (h : SameC C C') {v : V} {d : D} (r : Rep C μ H v d) : Rep C' μ H v d := Rep.to h.K h.ga h.avs r
theorem SameC.repL (h : SameC C C') {v : List V} {d : List D} (r : RepL C μ H v d) : RepL C' μ H v d := RepL.to h.K h.ga h.avs r
theorem SameC.sto (h : SameC C C') {S : Sto} (r : StoR C μ H S) : StoR C' μ H S := StoR.to h.K h.ga h.avs (fun a ha => r.avs a (by rw [h.av]; exact ha)) r
theorem SameC.env (h : SameC C C') {σ : L2.St} {δ : Env} (r : EnvR C μ H σ δ) : EnvR C' μ H σ δ := EnvR.to h.K h.ga h.avs r
theorem SameC.exr (h : SameC C C') {cls : Value} {dd : Option Addr} {c : Nat} {x : D} (r : ExR C μ H cls dd c x) : ExR C' μ H cls dd c x := by
  refine ⟨by rw [← h.ga]; exact r.1, ?_⟩
  have r2 := r.2
  rw [h.xf] at r2
  cases q : C'.xf c with
  | none => rw [q] at r2; exact r2
  | some f =>
    rw [q] at r2
    obtain ⟨p, v, e1, e2, e3, e4⟩ := r2
    exact ⟨p, v, e1, e2, e3, h.rep e4⟩
theorem SameC.pst (h : SameC C C') {r : R D} {Q : VK} (p : Pst C E μ H r (Rep C) Q) : Pst C' E μ H r (Rep C') Q := by
  cases r with
  | ok a S' => exact fun b H' μ' e r s => p b H' μ' (by rw [h.T]; exact e) (h.symm.rep r) (h.symm.sto s)
  | ex c x S' => exact fun cls dd H' μ' e r s => p cls dd H' μ' (by rw [h.T]; exact e) (h.symm.exr r) (h.symm.sto s)
  | bad => exact p
theorem SameC.spOf (h : SameC C C') {c : Calls} {i : Nat} {vs : List V} {Q : VK} (p : spOf C c i vs H Q E) : IT.spOf C' c i vs H Q E := by
  obtain ⟨μ, S, ds, r, s, t, p⟩ := p
  exact ⟨μ, S, ds, h.repL r, h.sto s, by rw [← h.T]; exact t, h.pst p⟩
/-- what a block must reach that ends by a return -/
def RtO (C : Cfg) (Q : VK) (μ : List Addr) (H : Hp) : O → Prop
  | .rt d S => ∀ v H' μ', Ext C.T μ H μ' H' → Rep C μ' H' v d → StoR C μ' H' S → Q v H'
  | _ => False
theorem SameC.rto (h : SameC C C') {o : O} {De : Ends} {Q : VK} (p : RtO C Q μ H o) (hr : De.rt = Q) : PstO C' (fun _ _ _ => False) De μ H o := by
  cases o with
  | rt d S => exact fun v H' μ' e r s => (by rw [hr]; exact p v H' μ' (by rw [h.T]; exact e) (h.symm.rep r) (h.symm.sto s))
  | ex c x S => exact p.elim
  | bad => exact p
  | nx δ S => exact p.elim
  | bk δ S => exact p.elim
  | ct δ S => exact p.elim
theorem cl_ok {o : O} {Ex : XK} {Q : VK} {μ1 : List Addr} {H1 : Hp} (p : Pst C Ex μ H (clO μ.length o) (Rep C) Q) (e : Ext C.T μ H μ1 H1) : RtO C Q μ1 H1 o := by
  cases o with
  | rt d S =>
    intro v H' μ' e' r s
    have e2 := e.trans e'
    obtain ⟨ν, rfl⟩ := e2.pre
    have p' : Pst C Ex μ H (match back false μ.length d S with
      | .ok d' S' => .ok d' S'
      | _ => .bad) (Rep C) Q := p
    cases hb : back false μ.length d S with
    | ok d' S' =>
      rw [hb] at p'
      obtain ⟨μ2, e3, r3, s3⟩ := back_ok s r e2 hb
      exact p' v H' μ2 e3 r3 s3
    | bad => rw [hb] at p'; exact p'.elim
    | ex _ _ _ => rw [hb] at p'; exact p'.elim
  | _ => exact p.elim
end
/-! ### a def that calls the closure it got -/
/-- the closure's reading, used by such a def: TT of GivesN -/
def TTc (C : Cfg) (G : Nat → Nat → Option Bool) (d : ClI) : (XK → Hp → VK → Prop) → Hp → VK → Prop := fun tl H Q =>
  tl (fun cls dd H' => ∃ j x μ1 S1, ExR C μ1 H' cls dd j x ∧ StoR C μ1 H' S1 ∧ Tabs C.T H' ∧ G j d.c = some true ∧ RtO C Q μ1 H' (exs (ex calls0 G AF { h := some (j, x) }) d.suite (List.replicate d.ns none) S1)) H
    fun _ H' => ∃ μ1 S1, StoR C μ1 H' S1 ∧ Tabs C.T H' ∧ RtO C Q μ1 H' (exs (ex calls0 G AF {}) d.rest (List.replicate d.ns none) S1)
theorem ttc_of {C : Cfg} {G : Nat → Nat → Option Bool} {d : ClI} {c0 : Calls} {b : E} {Ex : XK} {σ : L2.St} {H : Hp} {Q : VK}
    (h : tE C Ex (fun δ S => match ev c0 G AF {} b δ S with
        | .ok _ S1 => clO S.length (exs (ex calls0 G AF {}) d.rest (List.replicate d.ns none) S1)
        | .ex j x S1 => (match G j d.c with
          | some true => clO S.length (exs (ex calls0 G AF { h := some (j, x) }) d.suite (List.replicate d.ns none) S1)
          | _ => .bad)
        | .bad => .bad) σ H Q) : tLam C.T (TTc C G d) (fun E => tE C E fun δ S => ev c0 G AF {} b δ S) σ H Q := by
  obtain ⟨μ, δ, S, st, p⟩ := h
  refine ⟨st.tab, fun H1 eN t1 => ?_⟩
  have e1 : Ext C.T μ H μ H1 := ⟨⟨[], by simp⟩, fun a o h n nt => ⟨eN a o h nt, n⟩, fun _ => t1⟩
  have s1 : StoR C μ H1 S := st.sto.ext e1 fun a ha u hu => by
    obtain ⟨o, ho, xs, rfl⟩ := st.sto.lt ha
    rw [ho] at hu
    cases hu
    exact eN a _ ho (fun ps z => by cases z)
  have st1 := st.ext e1 s1
  refine ⟨μ, δ, S, st1, ?_⟩
  dsimp only at p
  rw [← st.sto.len] at p
  show Pst C _ μ H1 (ev c0 G AF {} b δ S) (Rep C) _
  cases hv : ev c0 G AF {} b δ S with
  | bad => rw [hv] at p; exact p
  | ok v S1 =>
    rw [hv] at p
    intro b' H' μ' e r s
    exact ⟨μ', S1, s, e.tabs st1.tab, cl_ok p (e1.trans e)⟩
  | ex j x S1 =>
    rw [hv] at p
    intro cls dd H' μ' e r s
    have p2 : Pst C Ex μ H (match G j d.c with
          | some true => clO μ.length (exs (ex calls0 G AF { h := some (j, x) }) d.suite (List.replicate d.ns none) S1)
          | _ => .bad) (Rep C) Q := p
    cases hg : G j d.c with
    | none => rw [hg] at p2; exact p2.elim
    | some t =>
      rw [hg] at p2
      cases t with
      | false => exact p2.elim
      | true => exact ⟨j, x, μ', S1, r, s, e.tabs st1.tab, hg, cl_ok p2 (e1.trans e)⟩
/-! ### .. and its body -/
theorem PSs.ex {ι : Sort _} {X : Cx} {ss : List Stmt} {t : ι → TS} (h : ∀ i, PSs X ss (t i)) : PSs X ss fun D σ H => ∃ i, t i D σ H := ⟨fun pins s σ H D I ⟨i, q⟩ => (h i).run pins s σ H D I q⟩
theorem PE.wk {X : Cx} {e : Expr} {t : TE} (h : PE X e t) : PE X e fun σ H Q => ∃ Q' : VK, t σ H Q' ∧ ∀ v H', Q' v H' → Q v H' := ⟨fun pins s σ H Q I ⟨Q', q, k⟩ =>
  thn (h.run pins s σ H Q' I q) fun v s1 ⟨x, H1, I1, r1, q1⟩ => ⟨x, H1, I1, r1, k _ _ q1⟩⟩
/-- what is known of the classes: which is caught by which -/
structure ClsOk (C : Cfg) (K : PySem.W.Frag) (G : Nat → Nat → Option Bool) : Prop where
  exm : ∀ j k b, G j k = some b → PySem.W.exmOne K (.ref (C.ga j)) (.ref (C.ga k)) = some b
  is : ∀ j k b, G j k = some b → ∀ (X : Cx) (a : Addr) (oe : Obj) (pn : List (Addr × Obj)) (dd : Option Addr), X.K = K → (C.xf j = none → dd = none) → L2N.Zn (.ref (C.ga j)) dd oe → (∃ vs, oe.data = .fields vs) →
    CallR (X.suite a ((a, oe) :: pn)) (.builtin "isinstance") (fun vs H Q => vs = [.ref a, .ref (C.ga k)] ∧ Q (.bl b) H)
/-- the base of an erasure's context for a def -/
structure BaseA (A : EA) (N : List Str) (sg : Scope) : Prop where
  N : A.N = N
  sc : A.sc = sg
  st : A.st = sg
theorem giv_ok {C : Cfg} {A : EA} {G : Nat → Nat → Option Bool} {rz : Nat → Bool} {d : ClI} {X : Cx} {Ng : List Str} {x a nm en : Str} {sg : Scope} {g : Addr} {cdv : Value} {q : Str} {suite rest : List Stmt} {b₀ : Stmt} {i : Nat} {p1 p2 p3 p4 p5 p6 : Pos}
    (hK : X.K = C.K) (bA : BaseA A Ng sg) (hA : A.hx = none ∧ A.hu = false ∧ A.lam = false) (hfn : sg.kind = .function) (hnd : Ng.Nodup) (hgl : ∀ x g, A.G x = some g → GOk C X.K X.mg x g) (co : ClsOk C X.K G) (hJ : C.J = none)
    (hi : idx Ng nm = some i) (hln : sg.names.lookup nm = some .local) (hge : gloB sg en = true) (hde : dbg en = false) (hG : A.G en = some (.cls d.c)) (hns : d.ns = Ng.length)
    (hs : erB (erS { A with hx := some nm, hu := true } (fun _ => false) 20) (b₀ :: suite) = some d.suite) (hr : erB (erS A (fun _ => false) 20) rest = some d.rest) :
    GivesN X Ng x sg g cdv (.Try [.Expr (.Call (.Name a p1) [] [] p2) p3] [.ExceptHandler (some (.Name en p4)) (some nm) (b₀ :: suite) p5] [] [] p6 :: rest) a q (TTc C G d) := by
  intro f c' s H Q tl act hroom hc h
  let X0 : Cx := (cxOf C8.CX0 X.prog X.w X.K X.mg X.base Ng x sg g cdv X.A X.stack s H C8.E0).nox
  have hun : X0.A.units + 65 < cLine := by
    have := hroom.un
    show (X.A.deeper (envOfC x sg s.heap.objs.size g cdv)).units + 65 < cLine
    omega
  have hi' : Ng[i]? = some nm := idx_ok hi
  have gl0 : ∀ {C' : Cfg}, SameC C C' → ∀ x g, A.G x = some g → GOk C' X.K X.mg x g := fun {C'} hs x g h => by
    have q := hgl x g h
    cases g with
    | fn i => exact ⟨by rw [← hs.ga]; exact q.1, by rw [← hs.ga]; exact q.2⟩
    | cls i => show X.mg x = _; rw [← hs.ga]; exact q
    | con d =>
      obtain ⟨u, v, h1, h2, h3⟩ := q
      exact ⟨u, v, h1, h2, fun J av μ H => Rep.to (C := { C with J := J, av := av }) (C' := { C' with J := J, av := av }) hs.K hs.ga (fun _ _ _ h => h) (h3 J av μ H)⟩
    | free => exact q
    | gcd => exact q
  -- the context of what follows
  have SR : StC C A {} X0 (fun _ _ _ => False) calls0 calls0 G (fun _ => false) := {
    K := {
      k := {
        jj := fun i v e => by rw [hJ] at e; cases e
        hK := hK
        hN := bA.N.symm
        nd := by rw [bA.N]; exact hnd
        hs := bA.sc.symm
        st := fun y hy => ⟨by rw [bA.st] at hy; exact locB_ok hy, .inl rfl⟩
        gl := hgl
        un := hun
        cal := fun _ => rfl
        ht := fun h => by cases h }
      kc := ⟨fun _ => xe_false, fun _ J av i hk => by cases hk⟩
      kl := ⟨fun h => (by rw [hA.2.2] at h; cases h), fun h => (by cases h), fun h => (by rw [hA.2.2] at h; cases h)⟩
      ke := fun h => by rw [hA.2.1] at h; cases h }
    sk := hfn
    po := fun _ => fun e s h => h.elim
    hn := fun _ => rfl
    rs := fun k hk => by cases hk }
  -- the context of the suite
  let A1 : EA := { A with hx := some nm, hu := true }
  have SS : ∀ (a : Addr) (oe : Obj) (dd : Option Addr) (pn : List (Addr × Obj)) (j : Nat) (z : D), L2N.Zn (.ref (C.ga j)) dd oe → (C.xf j = none → dd = none) → (∃ vs, oe.data = .fields vs) →
      StC { C with J := some (i, .ref a) } A1 { h := some (j, z) } (X0.suite a ((a, oe) :: pn)) (fun _ _ _ => False) calls0 calls0 G (fun _ => false) := fun a oe dd pn j z hz hx hf => {
    K := {
      k := {
        jj := fun i' v e => by
          cases e
          exact ⟨nm, rfl, by rw [show A1.N = A.N from rfl, bA.N]; exact hi'⟩
        hK := hK
        hN := bA.N.symm
        nd := by rw [show A1.N = A.N from rfl, bA.N]; exact hnd
        hs := bA.sc.symm
        st := fun y hy => ⟨by rw [show A1.st = A.st from rfl, bA.st] at hy; exact locB_ok hy, .inl rfl⟩
        gl := gl0 ⟨rfl, rfl, rfl, rfl, rfl⟩
        un := hun
        cal := fun h => by cases h
        ht := fun _ => by
          obtain ⟨vs, hv⟩ := hf
          exact ⟨(a, oe), ⟨rfl, vs, hv, hz.2.2 vs hv⟩, List.mem_cons_self⟩ }
      kc := ⟨fun h => (by cases h), fun h => (by cases h)⟩
      kl := ⟨fun h => (by rw [show A1.lam = A.lam from rfl, hA.2.2] at h; cases h), fun _ => hA.2.2, fun h => (by rw [show A1.lam = A.lam from rfl, hA.2.2] at h; cases h)⟩
      ke := fun _ j' z' e k b hb => by
        cases e
        exact ⟨i, .ref a, rfl, co.is j k b hb X0 a oe pn dd rfl hx hz hf⟩ }
    sk := hfn
    po := fun h => by cases h
    hn := fun h => by cases h
    rs := fun k hk => by cases hk }
  have names : Names X0 en (.ref (C.ga d.c)) := by
    obtain ⟨d1, d2, d3⟩ := dbg_ok (x := en) (by rw [hde]; exact Bool.false_ne_true)
    exact ⟨gloB_ok hge, d1, .inl (hgl en _ hG)⟩
  have hnN : X0.env.kindOf nm = some .local := hln
  refine ⟨_, pss_cons (L2N.ps_try_as (X := X0) (i := i) (n := nm) (c := .ref (C.ga d.c))
      (tb := fun W De σ H => ∃ Ech : XK, (∀ cls dd σ' H', σ'.length = Ng.length → Ech cls dd H' → W cls dd σ' H') ∧ σ[0]? = some (some (.ref f)) ∧ H c' = some (CodeO c' q) ∧ ∃ Q' : VK, tl Ech H Q' ∧ ∀ v H', Q' v H' → De.nx σ H')
      (ts := fun ae cls dd De σ H => ∃ (j : Nat) (z : D) (_ : cls = .ref (C.ga j) ∧ (C.xf j = none → dd = none)), tS { C with J := some (i, .ref ae) } (fun _ _ _ => False) (fun δ S => exs (ex calls0 G AF { h := some (j, z) }) d.suite δ S) De σ H)
      rfl rfl hnd hi' hnN names takes0 (fun W pn xe tk _ => ?_) (fun ae oe cls dd pn hz hf => ?_)) (ok_block (erS_ok 20) SR AF hr), ?_⟩
  · refine ⟨fun pins s' σ H' D I h' => ?_⟩
    obtain ⟨Ech, hW, h1, h2, Q', h3, h4⟩ := h'
    have hp := PE.wk (act W pn xe Ech p1 p2 tk hW)
    exact (pss_one (ps_expr (pos := p3) hp rfl)).run pins s' σ H' D I ⟨Q', ⟨h1, h2, h3⟩, h4⟩
  · refine PSs.ex fun j => PSs.ex fun z => PSs.ex fun hcl => ?_
    obtain ⟨rfl, hx⟩ := hcl
    exact ok_block (erS_ok 20) (SS ae oe dd pn j z hz hx hf) AF hs
  · refine ⟨_, ?_, ?_, hc, _, h, fun v H' ⟨μ1, S1, hst, htb, hrt⟩ => ⟨μ1, List.replicate d.ns none, S1, ⟨EnvR.none ?_, hst, htb, fun i v e => by rw [hJ] at e; cases e⟩, SameC.rto (C := C) (C' := C) ⟨rfl, rfl, rfl, rfl, rfl⟩ hrt rfl⟩⟩
    · rintro cls dd σ' H' hlen ⟨j, z, μ1, S1, hex, hst, htb, hg, hrt⟩
      refine ⟨true, ?_, fun _ ae hae => ⟨j, z, ⟨hex.1, fun hx => ?_⟩, μ1, List.replicate d.ns none, S1, ⟨EnvR.none (by rw [List.length_set, hlen, hns]), SameC.sto (C := C) (C' := { C with J := some (i, .ref ae) }) ⟨rfl, rfl, rfl, rfl, rfl⟩ hst, htb, fun i' v e => ?_⟩, SameC.rto (C := C) (C' := { C with J := some (i, .ref ae) }) ⟨rfl, rfl, rfl, rfl, rfl⟩ hrt rfl⟩, fun h => by cases h⟩
      · rw [hex.1]
        exact co.exm j d.c true hg
      · have r2 := hex.2
        rw [hx] at r2
        exact r2.2
      · cases e
        rw [List.getElem?_set_self]
        rw [hlen]
        exact (List.getElem?_eq_some_iff.mp hi').1
    · show (L2.start Ng [V.ref f])[0]? = some (some (V.ref f))
      rfl
    · have := (List.getElem?_eq_some_iff.mp hi').1
      rw [hns]
      unfold L2.start
      simp
      omega
end IT
end
section
set_option Elab.async false
set_option linter.all false
set_option maxRecDepth 100000
set_option autoImplicit false
namespace IT
open PySem PySem.Spec PyProof.Rows L2
open LamX (Tabs TabS CodeO TabB)
/-! ### the defs of a text -/
structure Row where
  ps : List Str
  N : List Str
  lam : Bool := false
  mu : List (Nat × Nat) := []
def Row.A (r : Row) (GG : Str → Option GV) (d : He.DefD) : EA := { N := r.N, sc := d.scope, st := d.scope, G := GG, lam := r.lam, mu := fun p => r.mu.contains (p.line, p.col) }
def BindP (d : He.DefD) (ps : List Str) : Prop := ∀ (kV doc pm : Value) (an : Option Addr) (cdv ct : Value) (us : List Value), us.length = ps.length → bindArgs (PySem.W.fnOf d.name d.qual d.params d.body d.scope .none kV doc pm an cdv ct) ⟨us, []⟩ = pure (ps.zip us)
/-- a def that is walked -/
structure RowOk (GG : Str → Option GV) (rz : Nat → Bool) (d : He.DefD) (r : Row) (f : FnI) : Prop where
  S : FnScope r.N r.ps d.scope
  ps : f.ps = r.ps.length
  ns : f.ns = r.N.length
  er : erB (erS (r.A GG d) rz 30) d.body = some f.body
  bd : BindP d r.ps
/-- a def that calls the closure it got -/
structure ClRow (GG : Str → Option GV) (d : He.DefD) (r : Row) (l : ClI) : Prop where
  S : FnScope r.N r.ps d.scope
  ns : l.ns = r.N.length
  lam : r.lam = false
  bd : BindP d r.ps
  body : ∃ (a nm en : Str) (i : Nat) (suite rest : List Stmt) (b₀ : Stmt) (p1 p2 p3 p4 p5 p6 : Pos), r.ps = [a] ∧ d.body = .Try [.Expr (.Call (.Name a p1) [] [] p2) p3] [.ExceptHandler (some (.Name en p4)) (some nm) (b₀ :: suite) p5] [] [] p6 :: rest ∧
    idx r.N nm = some i ∧ d.scope.names.lookup nm = some .local ∧ gloB d.scope en = true ∧ dbg en = false ∧ dbg a = false ∧ visB d.scope a = true ∧ GG en = some (.cls l.c) ∧
    erB (erS { r.A GG d with hx := some nm, hu := true } (fun _ => false) 20) (b₀ :: suite) = some l.suite ∧ erB (erS (r.A GG d) (fun _ => false) 20) rest = some l.rest
structure Told (P : Program) (w : World) (K : PySem.W.Frag) (mg : Str → Option Value) (base : Heap) (C : Cfg) (GG : Str → Option GV) (rz : Nat → Bool) (G : Nat → Nat → Option Bool) (fn : List He.DefD) (rows : List Row) (Γ : Nat → Option FnI) (Λ : Nat → Option ClI) : Prop where
  hK : C.K = K
  hJ : C.J = none
  hav : C.av = []
  hd : ∀ (i : Nat) (d : He.DefD), fn[i]? = some d → ∃ fd, FunD K d.name d.qual d.params d.body d.scope [] [] (C.ga i) fd
  hq : ∀ (i : Nat) (d : He.DefD), fn[i]? = some d → d.qual = d.name
  hg : ∀ x g, GG x = some g → GOk C K mg x g
  hn : ∀ (x : Str) (i : Nat) (d : He.DefD), GG x = some (.fn i) → fn[i]? = some d → d.name = x
  hr : ∀ k, rz k = true → ∀ X : Cx, X.K = K → RaisOk C X k
  hc : ClsOk C K G
  hw : ∀ (i : Nat) (f : FnI), Γ i = some f → ∃ d r, fn[i]? = some d ∧ rows[i]? = some r ∧ RowOk GG rz d r f
  hl : ∀ (i : Nat) (l : ClI), Λ i = some l → ∃ d r, fn[i]? = some d ∧ rows[i]? = some r ∧ ClRow GG d r l
  ht : ∀ (i : Nat) (d : He.DefD) (r : Row), fn[i]? = some d → rows[i]? = some r → r.lam = true → ∀ (cdv : Value) (oc : Value) (od : Option Addr) (osl : Array (Option Value)) (fd : FuncData), K.lookup (C.ga i) = some ⟨oc, od, .func fd, osl⟩ → fd.code = cdv → PySem.W.codeIn K cdv d.qual = true →
    ∃ cd P, TabB base mg cd P ∧ cdv = .ref cd ∧ (P, (d.qual ++ ".<locals>.") ++ "<lambda>") ∈ C.T ∧ ∀ p ∈ C.T, p.1 = P → p.2 = (d.qual ++ ".<locals>.") ++ "<lambda>"
section
variable {P : Program} {w : World} {K : PySem.W.Frag} {mg : Str → Option Value} {base : Heap} {C : Cfg} {GG : Str → Option GV} {rz : Nat → Bool} {G : Nat → Nat → Option Bool} {fn : List He.DefD} {rows : List Row} {Γ : Nat → Option FnI} {Λ : Nat → Option ClI}
/-- what is proved of the calls up to n deep -/
def CallsP (P : Program) (w : World) (K : PySem.W.Frag) (mg : Str → Option Value) (base : Heap) (C : Cfg) (rows : List Row) (c : Calls) (k : Nat) : Prop := ∀ J av i, c.kn i = true → PySem.W.keepIn K (.ref (C.ga i)) = true ∧
  ∃ (fd : FuncData) (ps : List Str), FnOk P w K mg base (L2N.CX P w) k (C.ga i) fd ps (spOf { C with J := J, av := av } c i) ∧ Binds K fd ps [] ∧ (∃ (oc : Value) (od : Option Addr) (osl : Array (Option Value)), K.lookup (C.ga i) = some ⟨oc, od, .func fd, osl⟩) ∧ ∀ r, rows[i]? = some r → ps = r.ps
theorem fnOk_mono {CX : CXT} {j k : Nat} {f : Addr} {fd : FuncData} {ps : List Str} {sp : Sp} (F : FnOk P w K mg base CX j f fd ps sp) (h : j ≤ k) : FnOk P w K mg base CX k f fd ps sp :=
  ⟨F.len, fun A outer s H args us vs Q E hr => F.run A outer s H args us vs Q E (hr.mono h)⟩
theorem gok_av (hg : ∀ x g, GG x = some g → GOk C K mg x g) (J : Option (Nat × V)) (av : List Addr) : ∀ x g, GG x = some g → GOk { C with J := J, av := av } K mg x g := fun x g h => by
  have q := hg x g h
  cases g with
  | con d => exact q
  | _ => exact q
theorem start_env {N : List Str} {ns : Nat} {μ : List Addr} {H : Hp} {vs : List V} {ds : List D} (r : RepL C μ H vs ds) (h : ns = N.length) (hl : ds.length ≤ N.length) : EnvR C μ H (L2.start N vs) (ds.map some ++ List.replicate (ns - ds.length) none) := by
  have hlen := r.length
  refine ⟨by unfold L2.start; simp; omega, fun i d q => ?_⟩
  by_cases hi : i < ds.length
  · rw [List.getElem?_append_left (by simpa using hi), List.getElem?_map, Option.map_eq_some_iff] at q
    obtain ⟨d', h1, h2⟩ := q
    cases h2
    obtain ⟨v, hv, rv⟩ := r.get h1
    refine ⟨v, ?_, rv⟩
    unfold L2.start
    rw [List.getElem?_append_left (by simp; omega), List.getElem?_map, hv]
    rfl
  · rw [List.getElem?_append_right (by simp; omega), List.getElem?_replicate] at q
    split at q <;> cases q
theorem calls_step {m : Nat} (T : Told P w K mg base C GG rz G fn rows Γ Λ) (k : Nat) (h1 : CallsP P w K mg base C rows (calls Γ Λ G m) k) (h0 : ∀ m', m = m' + 1 → ∃ k', k' + 2 ≤ k ∧ CallsP P w K mg base C rows (calls Γ Λ G m') k') :
    CallsP P w K mg base C rows (calls Γ Λ G (m + 1)) (k + 1) := by
  intro J av i hk
  have hk' : (Γ i).isSome = true := hk
  obtain ⟨f, hf⟩ := Option.isSome_iff_exists.mp hk'
  obtain ⟨d, r, hd, hrow, R⟩ := T.hw i f hf
  obtain ⟨fd, F⟩ := T.hd i d hd
  have hq := T.hq i d hd
  have hlk : ∃ (oc : Value) (od : Option Addr) (osl : Array (Option Value)), K.lookup (C.ga i) = some ⟨oc, od, .func fd, osl⟩ := by
    obtain ⟨oc, od, _, _, _, _, _, _, _, osl, e, lk, _⟩ := F.ex
    exact ⟨oc, od, osl, lk⟩
  refine ⟨F.kp, fd, r.ps, ?_, F.bindsN R.bd, hlk, fun r' hr' => by rw [hrow] at hr'; cases hr'; rfl⟩
  have bF : Binds K fd r.ps [] := F.bindsN R.bd
  obtain ⟨oc, od, dV, kV, doc, pm, an, cdv, ct, osl, efd, lk, hcd, _, _⟩ := F.ex
  have caE : ∀ ds S, (calls Γ Λ G (m + 1)).ca i ds S = if ds.length = f.ps then endO f.keep S.length (exs (ex (calls Γ Λ G m) G AF {}) f.body (ds.map some ++ List.replicate (f.ns - ds.length) none) S) else .bad := fun ds S => by
    show (match Γ i with
      | some d => if ds.length = d.ps then endO d.keep S.length (exs (ex (calls Γ Λ G m) G AF {}) d.body (ds.map some ++ List.replicate (d.ns - ds.length) none) S) else .bad
      | none => .bad) = _
    rw [hf]
  have hlen : ∀ vs H Q E, spOf { C with J := J, av := av } (calls Γ Λ G (m + 1)) i vs H Q E → vs.length = r.ps.length := fun vs H Q E ⟨μ, S, ds, rl, st, tb, p⟩ => by
    rw [caE] at p
    by_cases hz : ds.length = f.ps
    · rw [rl.length, hz, R.ps]
    · rw [if_neg hz] at p
      exact p.elim
  subst efd
  refine fn_of lk hcd R.S hlen fun A outer s H vs Q E hroom hsp => ?_
  have hsp2 : spOf { C with J := none, av := av } (calls Γ Λ G (m + 1)) i vs H Q E := SameC.spOf (C := { C with J := J, av := av }) (C' := { C with J := none, av := av }) ⟨rfl, rfl, rfl, rfl, rfl⟩ hsp
  obtain ⟨μ, S, ds, rl, st, tb, p⟩ := hsp2
  rw [caE] at p
  by_cases hz : ds.length = f.ps
  · rw [if_pos hz] at p
    let C1 : Cfg := { C with J := none, av := av }
    let X : Cx := cxOf (L2N.CX P w) P w K mg base r.N d.qual d.scope (C.ga i) cdv A outer s H E
    have SC : StC C1 (r.A GG d) {} X E (calls Γ Λ G m) (calls Γ Λ G (m - 1)) G rz := {
      K := {
        k := {
          jj := fun i v e => by cases e
          hK := T.hK.symm
          hN := rfl
          nd := R.S.nd
          hs := rfl
          st := fun y hy => ⟨locB_ok hy, .inl rfl⟩
          gl := gok_av T.hg none av
          un := by
            have := hroom.un
            show (A.deeper (envOfC d.qual d.scope s.heap.objs.size (C.ga i) cdv)).units + 65 < cLine
            omega
          cal := fun _ => rfl
          ht := fun h => by cases h }
        kc := ⟨fun _ => ⟨fun cls d _ H => E cls d H, L2N.takes_of (X := X) rfl rfl rfl rfl, fun _ _ _ _ _ h => h⟩, fun _ J' av' i' hk' => by
          obtain ⟨kp, fd', ps', F', b', _⟩ := h1 J' av' i' hk'
          exact ⟨kp, k, fd', ps', hroom, F', b'⟩⟩
        kl := ⟨fun hl => by
          obtain ⟨cd, P', t1, t2, t3, t4⟩ := T.ht i d r hd hrow hl cdv oc od osl _ lk rfl hcd
          exact ⟨cd, P', t1, t2, t3, t4⟩, fun h => (by cases h), fun hl x i' hx => by
          cases m with
          | zero => exact .inl fun b δ S => rfl
          | succ m' =>
            have clE : ∀ b δ S, (calls Γ Λ G (m' + 1)).cl i' b δ S = match Λ i' with
                | some d => (match ev (calls Γ Λ G m') G AF {} b δ S with
                  | .ok _ S1 => clO S.length (exs (ex calls0 G AF {}) d.rest (List.replicate d.ns none) S1)
                  | .ex j x S1 => (match G j d.c with
                    | some true => clO S.length (exs (ex calls0 G AF { h := some (j, x) }) d.suite (List.replicate d.ns none) S1)
                    | _ => .bad)
                  | .bad => .bad)
                | none => .bad := fun b δ S => rfl
            cases hΛ : Λ i' with
            | none => exact .inl fun b δ S => by rw [clE, hΛ]
            | some l =>
              refine .inr ?_
              obtain ⟨d', r', hd', hrow', L⟩ := T.hl i' l hΛ
              obtain ⟨fd', F'⟩ := T.hd i' d' hd'
              have hq' := T.hq i' d' hd'
              have hn' := T.hn x i' d' hx hd'
              have bF' : Binds K fd' r'.ps [] := F'.bindsN L.bd
              obtain ⟨oc', od', dV', kV', doc', pm', an', cdv', ct', osl', efd', lk', hcd', _, _⟩ := F'.ex
              obtain ⟨a, nm, en, ii, suite, rest, b₀, p1, p2, p3, p4, p5, p6, hps, hbody, hi, hln, hge, hde, hda, hva, hG, hs, hr⟩ := L.body
              obtain ⟨k', hk2, h0'⟩ := h0 m' rfl
              obtain ⟨a1, a2, a3⟩ := dbg_ok (x := a) (by rw [hda]; exact Bool.false_ne_true)
              subst efd'
              rw [hq', hn'] at lk' hcd'
              rw [hps, hq', hn'] at bF'
              have S' : FnScope r'.N [a] d'.scope := by rw [← hps]; exact L.S
              have hN0 : r'.N[0]? = some a := by
                have := S'.pre
                cases hN : r'.N with
                | nil => rw [hN] at this; cases this
                | cons y ys =>
                  rw [hN] at this
                  have e : y = a := by simpa using this
                  rw [e]; rfl
              refine ⟨k', d'.params, d'.body, d'.scope, dV', kV', doc', pm', cdv', ct', oc', an', od', osl', r'.N, a, hroom.mono hk2, fun J' av' i2 hk3 => (by obtain ⟨q1, q2, q3, q4, q5, _⟩ := h0' J' av' i2 hk3; exact ⟨q1, q2, q3, q4, q5⟩), F'.kp, lk', hcd', bF', S', hN0, visB_ok hva, a1, a2, fun av' => ⟨TTc (C1.a av') G l, fun q => ?_, fun b Ex σ H Q h => ?_⟩⟩
              · rw [hbody]
                exact giv_ok (C := C1.a av') (A := r'.A GG d') (X := X) (rz := rz) T.hK.symm ⟨rfl, rfl, rfl⟩ ⟨rfl, rfl, L.lam⟩ S'.kind S'.nd (gok_av T.hg none av') ⟨T.hc.exm, T.hc.is⟩ rfl hi hln hge hde hG L.ns hs hr
              · refine ttc_of (C := C1.a av') (G := G) (d := l) (c0 := calls Γ Λ G m') (b := b) (Ex := Ex) (σ := σ) (H := H) (Q := Q) ?_
                have e : (fun (δ : Env) S => (calls Γ Λ G (m' + 1)).cl i' b δ S) = fun δ S => match ev (calls Γ Λ G m') G AF {} b δ S with
                    | .ok _ S1 => clO S.length (exs (ex calls0 G AF {}) l.rest (List.replicate l.ns none) S1)
                    | .ex j x S1 => (match G j l.c with
                      | some true => clO S.length (exs (ex calls0 G AF { h := some (j, x) }) l.suite (List.replicate l.ns none) S1)
                      | _ => .bad)
                    | .bad => .bad := by
                  funext δ S
                  rw [clE, hΛ]
                rw [e] at h
                exact h⟩
        ke := fun h => by cases h }
      sk := R.S.kind
      po := fun _ => passes_of (X := X) (K := fun e s'' => L2N.CX P w outer H s E e s'') rfl
      hn := fun _ => rfl
      rs := fun k' hk' => by
        obtain ⟨a, b, c, d⟩ := T.hr k' hk' X rfl
        exact ⟨a, b, c, d⟩ }
    refine ⟨_, ok_block (erS_ok 30) SC AF R.er, μ, ds.map some ++ List.replicate (f.ns - ds.length) none, S, ⟨start_env rl R.ns ?_, st, tb, fun i v e => by cases e⟩, ?_⟩
    · have hz' := hz
      rw [R.ps] at hz'
      have := congrArg List.length R.S.pre
      rw [List.length_take] at this
      omega
    · rw [← st.len] at p
      exact end_ok p
  · rw [if_neg hz] at p
    exact p.elim
end
end IT
end
section
set_option Elab.async false
set_option linter.all false
set_option maxRecDepth 100000
set_option autoImplicit false
namespace IT
open PySem PySem.Spec PyProof.Rows L2
open LamX (Tabs TabS CodeO TabB)
theorem calls_ok {P : Program} {w : World} {K : PySem.W.Frag} {mg : Str → Option Value} {base : Heap} {C : Cfg} {GG : Str → Option GV} {rz : Nat → Bool} {G : Nat → Nat → Option Bool} {fn : List He.DefD} {rows : List Row} {Γ : Nat → Option FnI} {Λ : Nat → Option ClI}
    (T : Told P w K mg base C GG rz G fn rows Γ Λ) : ∀ n, CallsP P w K mg base C rows (calls Γ Λ G n) (2 * n) ∧ ∀ m', n = m' + 1 → CallsP P w K mg base C rows (calls Γ Λ G m') (2 * m')
  | 0 => ⟨fun J av i hk => (by cases hk), fun m' h => by cases h⟩
  | n + 1 => by
    obtain ⟨h1, h0⟩ := calls_ok T n
    refine ⟨calls_step T (2 * n + 1) (fun J av i hk => ?_) (fun m' e => ⟨2 * m', by omega, h0 m' e⟩), fun m' e => ?_⟩
    · obtain ⟨kp, fd, ps, F, b⟩ := h1 J av i hk
      exact ⟨kp, fd, ps, fnOk_mono F (by omega), b⟩
    · cases e
      exact h1
/-! ### a law's data -/
structure LD where
  fn : List He.DefD
  rows : List Row
  cls : List Str
  gl : List (Str × GV)
  gt : List ((Nat × Nat) × Bool)
  rz : List Nat
  tf : List He.Defn
  Γ : List (Option FnI)
  Λ : List (Option ClI)
namespace LD
variable (L : LD)
def nm (i : Nat) : Str := match L.fn[i]? with
  | some d => d.name
  | none => (L.cls[i - L.fn.length]?).getD ⟨#[]⟩
def GG (x : Str) : Option GV := L.gl.lookup x
def G (j k : Nat) : Option Bool := L.gt.lookup (j, k)
def rzB (k : Nat) : Bool := L.rz.contains k
def Gam (i : Nat) : Option FnI := (L.Γ[i]?).join
def Lam (i : Nat) : Option ClI := (L.Λ[i]?).join
def qual (x : Str) : Str := (x ++ ".<locals>.") ++ "<lambda>"
def C (K : PySem.W.Frag) : Cfg := ⟨K, fun i => He.ga K (L.nm i), L.tf.map fun p => ((He.cT K p).2, qual p.1), fun _ => none, none, []⟩
mutual
/-- a value of the written part, as data -/
def conB (K : PySem.W.Frag) : Value → D → Bool
  | .int j _, .int n => decide (j = n)
  | .str x _, .str y => decide (x = y)
  | .ref a, .tup ds => (match K.lookup a with
    | some o => decide (o.cls = .type "tuple") && (match o.data with
      | .seq its _ => decide (its.size ≤ sizeLine) && conBs K its.toList ds
      | _ => false)
    | none => false)
  | _, _ => false
def conBs (K : PySem.W.Frag) : List Value → List D → Bool
  | [], [] => true
  | u :: us, d :: ds => conB K u d && conBs K us ds
  | _, _ => false
end
mutual
theorem conB_ok {K : PySem.W.Frag} {C : Cfg} (hK : C.K = K) : ∀ {d : D} {u : Value}, conB K u d = true → ∃ v, RelV v u ∧ ∀ J av μ H, Rep { C with J := J, av := av } μ H v d
  | .int n, u, h => by
    cases u <;> simp [conB] at h
    subst h
    exact ⟨.int _, ⟨_, rfl⟩, fun _ _ _ _ => .int _⟩
  | .str y, u, h => by
    cases u <;> simp [conB] at h
    subst h
    exact ⟨.str _, ⟨_, rfl⟩, fun _ _ _ _ => .str _⟩
  | .tup ds, u, h => by
    cases u with
    | ref a =>
      simp only [conB] at h
      cases e : K.lookup a with
      | none => rw [e] at h; cases h
      | some o =>
        rw [e] at h
        simp only [Bool.and_eq_true, decide_eq_true_eq] at h
        obtain ⟨h1, h2⟩ := h
        cases e2 : o.data with
        | seq its n =>
          rw [e2] at h2
          simp only [Bool.and_eq_true, decide_eq_true_eq] at h2
          obtain ⟨vs, h3, h4⟩ := conBs_ok hK h2.2
          exact ⟨.ref a, rfl, fun J av μ H => .tup (.inr ⟨o, its, n, by show C.K.lookup a = _; rw [hK]; exact e, h1, e2, h2.1, h3⟩) (h4 J av μ H)⟩
        | _ => rw [e2] at h2; cases h2
    | _ => simp [conB] at h
  | .non, u, h => by cases u <;> simp [conB] at h
  | .bl _, u, h => by cases u <;> simp [conB] at h
  | .lst _, u, h => by cases u <;> simp [conB] at h
  | .ref _, u, h => by cases u <;> simp [conB] at h
  | .glo _, u, h => by cases u <;> simp [conB] at h
  | .ty _, u, h => by cases u <;> simp [conB] at h
  | .scr _, u, h => by cases u <;> simp [conB] at h
theorem conBs_ok {K : PySem.W.Frag} {C : Cfg} (hK : C.K = K) : ∀ {ds : List D} {us : List Value}, conBs K us ds = true → ∃ vs, Vals vs us ∧ ∀ J av μ H, RepL { C with J := J, av := av } μ H vs ds
  | [], us, h => by
    cases us with
    | nil => exact ⟨[], .nil, fun _ _ _ _ => .nil⟩
    | cons _ _ => simp [conBs] at h
  | d :: ds, us, h => by
    cases us with
    | nil => simp [conBs] at h
    | cons u us =>
      rw [conBs, Bool.and_eq_true] at h
      obtain ⟨v, h1, h2⟩ := conB_ok hK h.1
      obtain ⟨vs, h3, h4⟩ := conBs_ok hK h.2
      exact ⟨v :: vs, .cons h1 h3, fun J av μ H => .cons (h2 J av μ H) (h4 J av μ H)⟩
end
def gvB (K : PySem.W.Frag) : Str × GV → Bool
  | (x, .fn i) => decide (L.nm i = x) && He.eqO (PySem.W.nsIn K mainGlobals x) (some (some (.ref (He.ga K x)))) && PySem.W.keepIn K (.ref (He.ga K x))
  | (x, .cls i) => decide (L.nm i = x) && He.eqO (PySem.W.nsIn K mainGlobals x) (some (some (.ref (He.ga K x))))
  | (x, .con d) => (match PySem.W.nsIn K mainGlobals x with
    | some (some u) => conB K u d
    | _ => false)
  | (x, .free) => He.eqO (PySem.W.nsIn K mainGlobals x) (some none)
  | (x, .gcd) => He.eqO (PySem.W.nsIn K mainGlobals x) (some (some (.builtin "math.gcd")))
def excB (K : PySem.W.Frag) (D : Addr) : Bool := decide (PySem.W.findIn K (.ref D) "__getattribute__" = some (some (.builtin "BaseException.__getattribute__"))) && decide (PySem.W.findIn K (.ref D) "__getattr__" = some none) &&
  decide (PySem.W.subIn K (.ref D) (.type "BaseException") = some true) && PySem.W.hasDictIn K D && decide (PySem.W.findIn K (.ref D) "__class__" = some (some (.builtin "object.__class__"))) &&
  decide (PySem.W.specialIn K (.builtin "object.__class__") "__get__" = some (some (.builtin "getset_descriptor.__get__"))) && decide (PySem.W.takesIn K (.builtin "object.__class__") = some true) && decide (PySem.W.mroIn K D (.type "object") = some true)
def gtB (K : PySem.W.Frag) (q : (Nat × Nat) × Bool) : Bool := decide (PySem.W.exmOne K (.ref (He.ga K (L.nm q.1.1))) (.ref (He.ga K (L.nm q.1.2))) = some q.2) && decide (PySem.W.kitOne K (.ref (He.ga K (L.nm q.1.1))) (.ref (He.ga K (L.nm q.1.2))) = some q.2) && excB K (He.ga K (L.nm q.1.1))
def ndB : List Addr → Bool
  | [] => true
  | a :: r => !r.contains a && ndB r
/-- what the head must tell -/
def exK (K : PySem.W.Frag) : Bool := L.gl.all (L.gvB K) && L.gt.all (L.gtB K) && L.rz.all (fun k => (He.Fa.exc (L.nm k)).ok K) && ndB (L.tf.map fun p => (He.cT K p).2)
theorem nd_ok : ∀ {l : List He.Defn} {f : He.Defn → Addr}, ndB (l.map f) = true → ∀ p ∈ l, ∀ q ∈ l, f p = f q → p = q
  | [], _, _, p, hp, _, _, _ => by cases hp
  | a :: r, f, h, p, hp, q, hq, e => by
    simp only [List.map_cons, ndB, Bool.and_eq_true, Bool.not_eq_true'] at h
    have no : ∀ x ∈ r, f x ≠ f a := fun x hx z => by
      have : (r.map f).contains (f a) = true := by
        rw [List.contains_iff_mem, ← z]
        exact List.mem_map_of_mem hx
      rw [h.1] at this
      cases this
    rcases List.mem_cons.mp hp with hp | hp <;> rcases List.mem_cons.mp hq with hq | hq
    · rw [hp, hq]
    · rw [hp] at e
      exact absurd e.symm (no q hq)
    · rw [hq] at e
      exact absurd e (no p hp)
    · exact nd_ok h.2 p hp q hq e
/-- what the text must be: to be shown of a law's data -/
structure Ok : Prop where
  at_ : ∀ d ∈ L.fn, d.at_ = (d.name, none) ∧ d.qual = d.name ∧ d.dfl = [] ∧ d.kwd = []
  rw : ∀ (i : Nat) (f : FnI), L.Gam i = some f → ∃ d r, L.fn[i]? = some d ∧ L.rows[i]? = some r ∧ RowOk L.GG L.rzB d r f
  cl : ∀ (i : Nat) (l : ClI), L.Lam i = some l → ∃ d r, L.fn[i]? = some d ∧ L.rows[i]? = some r ∧ ClRow L.GG d r l
  lam : ∀ (i : Nat) (d : He.DefD) (r : Row), L.fn[i]? = some d → L.rows[i]? = some r → r.lam = true → (d.name, none) ∈ L.tf
  tf : ∀ p ∈ L.tf, p.2 = none
theorem told {L : LD} (ok : L.Ok) {P : Program} {w : World} {K : PySem.W.Frag} {mg : Str → Option Value} {base h : Heap} (X : K.In base) (M : base.Ns mainGlobals mg) (S : He.SaysX [] L.fn [] L.tf L.exK w h K)
    (tb : ∀ p ∈ L.tf.map (He.cT K), TabB base mg p.1 p.2) : Told P w K mg base (L.C K) L.GG L.rzB L.G L.fn L.rows L.Gam L.Lam := by
  have hex := S.more
  unfold exK at hex
  simp only [Bool.and_eq_true] at hex
  obtain ⟨⟨⟨e1, e2⟩, e3⟩, e4⟩ := hex
  have gl : ∀ {x g}, L.GG x = some g → L.gvB K (x, g) = true := fun {x g} h => List.all_eq_true.mp e1 _ (PySem.mem_of_lookup h)
  have gt : ∀ {j k b}, L.G j k = some b → L.gtB K ((j, k), b) = true := fun {j k b} h => List.all_eq_true.mp e2 _ (by
    unfold LD.G at h
    have : ∀ {l : List ((Nat × Nat) × Bool)} {a : Nat × Nat} {b : Bool}, l.lookup a = some b → (a, b) ∈ l := fun {l a b} h => by
      induction l with
      | nil => cases h
      | cons q r ih =>
        obtain ⟨k, v⟩ := q
        rw [List.lookup_cons] at h
        cases hb : a == k with
        | true =>
          rw [hb] at h
          cases h
          rw [beq_iff_eq.mp hb]
          exact List.mem_cons_self
        | false =>
          rw [hb] at h
          exact List.mem_cons_of_mem _ (ih h)
    exact this h)
  have funs : ∀ (i : Nat) (d : He.DefD), L.fn[i]? = some d → ∃ fd, FunD K d.name d.qual d.params d.body d.scope [] [] ((L.C K).ga i) fd := fun i d hd => by
    have hm := List.mem_of_getElem? hd
    obtain ⟨fd, F⟩ := S.t.d.defs hm
    obtain ⟨a1, a2, a3, a4⟩ := ok.at_ d hm
    have n1 : L.nm i = d.name := by unfold LD.nm; rw [hd]
    refine ⟨fd, ?_⟩
    have e5 : d.dvs K = [] := by unfold He.DefD.dvs; rw [a3]; rfl
    have e6 : d.kws K = [] := by unfold He.DefD.kws; rw [a4]; rfl
    have e7 : He.fAd K d.at_ = (L.C K).ga i := by
      rw [a1]
      show He.ga K d.name = He.ga K (L.nm i)
      rw [n1]
    rw [e5, e6, e7] at F
    exact F
  exact {
    hK := rfl
    hJ := rfl
    hav := rfl
    hd := funs
    hq := fun i d hd => (ok.at_ d (List.mem_of_getElem? hd)).2.1
    hg := fun x g h => by
      have q := gl h
      cases g with
      | fn i =>
        simp only [LD.gvB, Bool.and_eq_true, decide_eq_true_eq] at q
        have e : (L.C K).ga i = He.ga K x := by show He.ga K (L.nm i) = _; rw [q.1.1]
        exact ⟨by rw [e]; exact PySem.W.mg_of X M (He.eqO_ok q.1.2), by rw [e]; exact q.2⟩
      | cls i =>
        simp only [LD.gvB, Bool.and_eq_true, decide_eq_true_eq] at q
        have e : (L.C K).ga i = He.ga K x := by show He.ga K (L.nm i) = _; rw [q.1]
        show mg x = some (.ref ((L.C K).ga i))
        rw [e]
        exact PySem.W.mg_of X M (He.eqO_ok q.2)
      | con d =>
        simp only [LD.gvB] at q
        split at q
        · rename_i u hn
          obtain ⟨v, h1, h2⟩ := conB_ok (C := L.C K) rfl q
          exact ⟨u, v, PySem.W.mg_of X M hn, h1, h2⟩
        · cases q
      | free => exact PySem.W.mg_none_of X M (He.eqO_ok q)
      | gcd => exact PySem.W.mg_of X M (He.eqO_ok q)
    hn := fun x i d hx hd => by
      have q := gl hx
      simp only [LD.gvB, Bool.and_eq_true, decide_eq_true_eq] at q
      have n1 : L.nm i = d.name := by unfold LD.nm; rw [hd]
      rw [← n1]
      exact q.1.1
    hr := fun k hk Y hY => by
      have q := List.all_eq_true.mp e3 k (by unfold LD.rzB at hk; rwa [List.contains_iff_mem] at hk)
      obtain ⟨c1, c2, c3, c4⟩ := He.exc_ok q
      exact ⟨⟨_, _, _, _, PySem.F.excBase_ValueError, by rw [hY]; exact c1⟩, by rw [hY]; exact c2, raises_own (by rw [hY]; exact c3) (by rw [hY]; exact c4), rfl⟩
    hc := ⟨fun j k b h => by
      have q := gt h
      simp only [LD.gtB, Bool.and_eq_true, decide_eq_true_eq] at q
      exact q.1.1, fun j k b h Y a oe pn dd hY hdd hz hf => by
      have q := gt h
      simp only [LD.gtB, Bool.and_eq_true, decide_eq_true_eq] at q
      have q2 := q.2
      simp only [LD.excB, Bool.and_eq_true, decide_eq_true_eq] at q2
      obtain ⟨⟨⟨⟨⟨⟨⟨b1, b2⟩, b3⟩, b4⟩, b5⟩, b6⟩, b7⟩, b8⟩ := q2
      have E : ExcC Y.K ((L.C K).ga j) := by rw [hY]; exact ⟨b1, b2, b3, b4, b5, b6, b7, b8⟩
      have hdd' := hdd rfl
      subst hdd'
      intro pins s σ H vs us Q I rv ⟨e, hQ⟩
      subst e
      refine call_isE E hz.zc hf pins s σ H _ us Q I rv ⟨.ref ((L.C K).ga k), .ref ((L.C K).ga k), b, rfl, fun u hu => hu, ?_, hQ⟩
      show PySem.W.kitOne Y.K _ _ = _
      rw [hY]
      exact q.1.2⟩
    hw := ok.rw
    hl := ok.cl
    ht := fun i d r hd hr hlam cdv oc od osl fd lk hcode hcd => by
      obtain ⟨cd, rfl⟩ := He.codeIn_ref hcd
      have hmem := ok.lam i d r hd hr hlam
      have n1 : L.nm i = d.name := by unfold LD.nm; rw [hd]
      have lk' : K.lookup (He.fAd K (d.name, none)) = some ⟨oc, od, .func fd, osl⟩ := by
        have e : He.fAd K (d.name, none) = (L.C K).ga i := by
          show He.ga K d.name = He.ga K (L.nm i)
          rw [n1]
        rw [e]
        exact lk
      have hco := He.codeOf_eq lk' hcode
      have hq := (ok.at_ d (List.mem_of_getElem? hd)).2.1
      have t := tb _ (List.mem_map_of_mem (f := He.cT K) hmem)
      have e1 : (He.cT K (d.name, none)).1 = cd := hco
      refine ⟨cd, (He.cT K (d.name, none)).2, by rw [← e1]; exact t, rfl, ?_, fun p hp hpe => ?_⟩
      · rw [hq]
        exact List.mem_map_of_mem (f := fun p : He.Defn => ((He.cT K p).2, qual p.1)) hmem
      · obtain ⟨p', hp', rfl⟩ := List.mem_map.mp hp
        have : p' = (d.name, none) := nd_ok e4 p' hp' _ hmem hpe
        rw [this, hq]
        rfl }
/-- THE END: a law by its data and by what the evaluator makes of it -/
theorem law {L : LD} (ok : L.Ok) {l : PySem.W.OpenLaw} {w : World} {mg : Str → Option Value} {fa : Addr} {h : Heap} {n most i : Nat} {x : Str} (hS : He.hookX 4 [] L.fn [] L.tf L.exK |>.says w h) (M : h.Ns mainGlobals mg) {d : He.DefD} {r : Row} (hd : L.fn[i]? = some d) (hr : L.rows[i]? = some r) (hps : r.ps = [x])
    (hmg : mg d.name = some (.ref fa)) (hG : L.GG d.name = some (.fn i)) (hk : (L.Gam i).isSome = true) (hbd : BindP d [x])
    (math : ∀ (ns : List Int) (y : D), ns.length ≤ most → (y = .scr ns ∨ y = .lst (ns.map D.int)) → ∃ S, (calls L.Gam L.Lam L.G (n + 1)).ca i [y] [] = .ok (.bl true) S) :
    ∃ K : PySem.W.Frag, K.In h ∧ LamX.LawAtS l w K (L2N.CX l.prog w) (2 * (n + 1)) most x mg fa h := by
  obtain ⟨K, KX, S⟩ := hS
  refine ⟨K, KX, ?_⟩
  have hga : He.fAd K d.at_ = (L.C K).ga i := by
    obtain ⟨a1, _⟩ := ok.at_ d (List.mem_of_getElem? hd)
    rw [a1]
    show He.ga K d.name = He.ga K (L.nm i)
    unfold LD.nm
    rw [hd]
  obtain ⟨fd0, F0⟩ := S.t.d.defs (List.mem_of_getElem? hd)
  obtain ⟨a1, a2, a3, a4⟩ := ok.at_ d (List.mem_of_getElem? hd)
  have e5 : d.dvs K = [] := by unfold He.DefD.dvs; rw [a3]; rfl
  have e6 : d.kws K = [] := by unfold He.DefD.kws; rw [a4]; rfl
  rw [e5, e6, hga] at F0
  have hfa : fa = (L.C K).ga i := by
    have hex := S.more
    unfold exK at hex
    simp only [Bool.and_eq_true] at hex
    have q := List.all_eq_true.mp hex.1.1.1 _ (PySem.mem_of_lookup hG)
    simp only [LD.gvB, Bool.and_eq_true, decide_eq_true_eq] at q
    have := PySem.W.mg_of KX M (He.eqO_ok q.1.2)
    rw [hmg] at this
    cases this
    show _ = He.ga K (L.nm i)
    rw [q.1.1]
  refine ⟨fd0, L.tf.map (He.cT K), spOf (L.C K) (calls L.Gam L.Lam L.G (n + 1)) i, fun p hp => ?_, fun p hp => ?_, fun p hp => ?_, fun s u => ?_, fun H a ns hlen _ hT hq => ?_, fun base KB MB tb => ?_⟩
  · obtain ⟨q, hq, rfl⟩ := List.mem_map.mp hp
    exact S.empty q hq
  · obtain ⟨q, hq, rfl⟩ := List.mem_map.mp hp
    exact S.out q hq
  · obtain ⟨q, hq, rfl⟩ := List.mem_map.mp hp
    exact PySem.W.codeHd_of_K KX (S.hd q hq)
  · exact FunD.bindsA (ps := [x]) F0 (fun kV doc pm an cdv ct us hl => hbd kV doc pm an cdv ct us hl) s [u] rfl
  · have key : ∃ y, Rep (L.C K) [] H (.ref a) y ∧ (y = .scr ns ∨ y = .lst (ns.map D.int)) := by
      rcases hq with (h | ⟨o, h⟩) | h
      · exact ⟨_, .lst h (by simp) (by show a ∉ []; simp) (RepL.ofInts ns), .inr rfl⟩
      · exact ⟨_, .scr (.inl ⟨o, h, by simp⟩), .inl rfl⟩
      · exact ⟨_, .scr (.inr h), .inl rfl⟩
    obtain ⟨y, ry, hy⟩ := key
    obtain ⟨S', hS'⟩ := math ns y hlen hy
    refine ⟨[], [], [y], .cons ry .nil, ⟨rfl, List.nodup_nil, fun n o q => by simp at q, fun a ha => by cases ha⟩, fun p hp => ?_, ?_⟩
    · obtain ⟨q, hq, rfl⟩ := List.mem_map.mp hp
      exact LamX.TabS.nil (hT _ (List.mem_map_of_mem hq))
    · rw [hS']
      intro b H' μ' e rb s
      cases rb
      rfl
  · have T : Told l.prog w K mg base (L.C K) L.GG L.rzB L.G L.fn L.rows L.Gam L.Lam := told ok KB MB S tb
    obtain ⟨kp, fd, ps, F, b, ⟨oc, od, osl, lk⟩, hp⟩ := (calls_ok T (n + 1)).1 none [] i hk
    obtain ⟨oc', od', _, _, _, _, _, _, _, osl', efd, lk', _⟩ := F0.ex
    rw [lk] at lk'
    cases lk'
    have e : ps = [x] := (hp r hr).trans hps
    subst e
    rw [hfa]
    exact F
end LD
end IT
end
section
set_option Elab.async false
set_option linter.all false
set_option maxRecDepth 100000
set_option autoImplicit false
/-! IT: the evaluator, step by step -/
namespace IT
section
variable (c : Calls) (G : Nat → Nat → Option Bool) (n : Nat) (cx : Ct) (δ : Env) (S : Sto)
theorem ev_v (i : Nat) : ev c G (n + 1) cx (.v i) δ S = (match δ[i]? with | some (some d) => .ok d S | _ => .bad) := rfl
theorem ev_k (d : D) : ev c G (n + 1) cx (.k d) δ S = .ok d S := rfl
theorem ev_bin (o : BO) (a b : E) : ev c G (n + 1) cx (.bin o a b) δ S = (ev c G n cx a δ S).bind fun x S1 => (ev c G n cx b δ S1).bind fun y S2 => binop o x y S2 := rfl
theorem ev_cmp (o : CO) (a b : E) : ev c G (n + 1) cx (.cmp o a b) δ S = (ev c G n cx a δ S).bind fun x S1 => (ev c G n cx b δ S1).bind fun y S2 => cmpR o x y S2 := rfl
theorem ev_neg (a : E) : ev c G (n + 1) cx (.neg a) δ S = (ev c G n cx a δ S).bind fun x S1 => match x with | .int i => .ok (.int (-i)) S1 | _ => .bad := rfl
theorem ev_nt (a : E) : ev c G (n + 1) cx (.nt a) δ S = (ev c G n cx a δ S).bind fun x S1 => (tst S1 x).bind fun b S2 => .ok (.bl (!b)) S2 := rfl
theorem ev_and (a b : E) : ev c G (n + 1) cx (.and a b) δ S = (ev c G n cx a δ S).bind fun x S1 => (tst S1 x).bind fun k S2 => if k = true then ev c G n cx b δ S2 else .ok x S2 := rfl
theorem ev_or (a b : E) : ev c G (n + 1) cx (.or a b) δ S = (ev c G n cx a δ S).bind fun x S1 => (tst S1 x).bind fun k S2 => if k = true then .ok x S2 else ev c G n cx b δ S2 := rfl
theorem ev_ite (t a b : E) : ev c G (n + 1) cx (.ite t a b) δ S = (tests (fun e S => ev c G n cx e δ S) n t S).bind fun k S1 => if k = true then ev c G n cx a δ S1 else ev c G n cx b δ S1 := rfl
theorem ev_tup (es : List E) : ev c G (n + 1) cx (.tup es) δ S = (evs (fun e S => ev c G n cx e δ S) es S).bind fun ds S1 => if ds.length ≤ PySem.sizeLine then .ok (.tup ds) S1 else .bad := rfl
theorem ev_lst (es : List E) : ev c G (n + 1) cx (.lst es) δ S = (evs (fun e S => ev c G n cx e δ S) es S).bind fun ds S1 => if ds.length ≤ PySem.sizeLine then .ok (.lst ds) S1 else .bad := rfl
theorem ev_nlst (es : List E) : ev c G (n + 1) cx (.nlst es) δ S = (evs (fun e S => ev c G n cx e δ S) es S).bind fun ds S1 => if ds.length ≤ PySem.sizeLine then .ok (.ref S1.length) (S1 ++ [.lst ds]) else .bad := rfl
theorem ev_ix (a i : E) : ev c G (n + 1) cx (.ix a i) δ S = (ev c G n cx a δ S).bind fun x S1 => (ev c G n cx i δ S1).bind fun y S2 => index x y S2 := rfl
theorem ev_sl (a : E) (lo hi : Option E) : ev c G (n + 1) cx (.sl a lo hi) δ S = (ev c G n cx a δ S).bind fun x S1 => (evo (fun e S => ev c G n cx e δ S) lo S1).bind fun l S2 => (evo (fun e S => ev c G n cx e δ S) hi S2).bind fun h S3 => slice x l h S3 := rfl
theorem ev_rev (a : E) : ev c G (n + 1) cx (.rev a) δ S = (ev c G n cx a δ S).bind fun x S1 => revd x S1 := rfl
theorem ev_app (o e : E) : ev c G (n + 1) cx (.app o e) δ S = (ev c G n cx o δ S).bind fun x S1 => (match x with | .ref m => (ev c G n cx e δ S1).bind fun y S2 => append (.ref m) y S2 | _ => .bad) := rfl
theorem ev_chn (o o' : CO) (a b d : E) : ev c G (n + 1) cx (.chn o o' a b d) δ S = (ev c G n cx a δ S).bind fun x S1 => (ev c G n cx b δ S1).bind fun y S2 => match cmpop o x y S2 with
      | some true => (ev c G n cx d δ S2).bind fun z S3 => cmpR o' y z S3
      | some false => .ok (.bl false) S2
      | none => .bad := rfl
theorem ev_call (f : Nat) (es : List E) (h : c.kn f = true) : ev c G (n + 1) {} (.call f es) δ S = (evs (fun e S => ev c G n {} e δ S) es S).bind fun ds S1 => c.ca f ds S1 := by
  rw [ev]; simp only [h]; rfl
theorem ev_bi (b : BI) (es : List E) : ev c G (n + 1) {} (.bi b es) δ S = (evs (fun e S => ev c G n {} e δ S) es S).bind fun ds S1 => bins b ds S1 := rfl
theorem ev_isi (a : E) (t : String) : ev c G (n + 1) {} (.isi a t) δ S = (ev c G n {} a δ S).bind fun x S1 => isiD t x S1 := rfl
theorem ev_lc (m : Bool) (elt : E) (tg : T) (it : E) (t : Option E) (own : List Nat) : ev c G (n + 1) {} (.lc m elt tg it t own) δ S = lcR (fun δ S => items (fun e S => ev c G n {} e δ S) it S) m tg
      (t.map fun t δ S => tests (fun e S => ev c G n {} e δ S) n t S) (fun δ S => ev c G n {} elt δ S) own δ S := rfl
theorem ex_asg (t : T) (e : E) : ex c G (n + 1) cx (.asg t e) δ S = .ofR (ev c G AF cx e δ S) fun d S1 => match T.put S1 t d δ with | some δ' => .nx δ' S1 | none => .bad := rfl
theorem ex_setix (o i e : E) : ex c G (n + 1) cx (.setix o i e) δ S = .ofR (ev c G AF cx e δ S) fun y S1 => .ofR (ev c G AF cx o δ S1) fun x S2 => .ofR (ev c G AF cx i δ S2) fun j S3 => match setAt x j y S3 with | some S4 => .nx δ S4 | none => .bad := rfl
theorem ex_ex (e : E) : ex c G (n + 1) cx (.ex e) δ S = .ofR (ev c G AF cx e δ S) fun _ S1 => .nx δ S1 := rfl
theorem ex_ite (t : E) (a b : List IT.S) : ex c G (n + 1) cx (.ite t a b) δ S = .ofR (tests (fun e S => ev c G AF cx e δ S) AF t S) fun k S1 => if k = true then exs (ex c G n cx) a δ S1 else exs (ex c G n cx) b δ S1 := rfl
theorem ex_for (t : T) (it : E) (b : List IT.S) : ex c G (n + 1) {} (.for_ t it b) δ S = .ofR (items (fun e S => ev c G AF {} e δ S) it S) fun q S1 => forl (stands q.2) (forF t fun δ S => exs (ex c G n {}) b δ S) q.1 δ S1 := rfl
theorem ex_ret (e : E) : ex c G (n + 1) cx (.ret (some e)) δ S = .ofR (ev c G AF cx e δ S) fun d S1 => .rt d S1 := rfl
theorem ex_ret0 : ex c G (n + 1) cx (.ret none) δ S = .rt .non S := rfl
theorem ex_brk : ex c G (n + 1) cx .brk δ S = .bk δ S := rfl
theorem ex_rai (k : Nat) : ex c G (n + 1) {} (.rai k) δ S = .ex k .non S := rfl
theorem exs_nil (f : IT.S → Env → Sto → O) : exs f [] δ S = .nx δ S := rfl
theorem exs_cons (f : IT.S → Env → Sto → O) (s : IT.S) (r : List IT.S) : exs f (s :: r) δ S = (match f s δ S with | .nx δ' S' => exs f r δ' S' | o => o) := rfl
theorem evs_nil (f : E → Sto → R D) : evs f [] S = .ok [] S := rfl
theorem evs_cons (f : E → Sto → R D) (e : E) (r : List E) : evs f (e :: r) S = (f e S).bind fun d S1 => (evs f r S1).bind fun ds S2 => .ok (d :: ds) S2 := rfl
theorem bind_ok {α β : Type} (a : α) (f : α → Sto → R β) : (R.ok a S).bind f = f a S := rfl
theorem ofR_ok {α : Type} (a : α) (f : α → Sto → O) : O.ofR (.ok a S) f = f a S := rfl
theorem ofR_ex {α : Type} (k : Nat) (x : D) (f : α → Sto → O) : O.ofR (.ex k x S) f = .ex k x S := rfl
theorem tests_and (f : E → Sto → R D) (a b : E) : tests f (n + 1) (.and a b) S = (tests f n a S).bind fun c S1 => if c = true then tests f n b S1 else .ok false S1 := rfl
theorem tests_or (f : E → Sto → R D) (a b : E) : tests f (n + 1) (.or a b) S = (tests f n a S).bind fun c S1 => if c = true then .ok true S1 else tests f n b S1 := rfl
theorem tests_nt (f : E → Sto → R D) (a : E) : tests f (n + 1) (.nt a) S = (tests f n a S).bind fun c S1 => .ok (!c) S1 := rfl
theorem tests_call (f : E → Sto → R D) (i : Nat) (es : List E) : tests f (n + 1) (.call i es) S = (f (.call i es) S).bind fun d S1 => tst S1 d := rfl
theorem tests_callv (f : E → Sto → R D) (i : Nat) (es : List E) : tests f (n + 1) (.callv i es) S = (f (.callv i es) S).bind fun d S1 => tst S1 d := rfl
theorem tests_bi (f : E → Sto → R D) (b : BI) (es : List E) : tests f (n + 1) (.bi b es) S = (f (.bi b es) S).bind fun d S1 => tst S1 d := rfl
theorem tests_cmp (f : E → Sto → R D) (o : CO) (a b : E) : tests f (n + 1) (.cmp o a b) S = (f (.cmp o a b) S).bind fun d S1 => tst S1 d := rfl
theorem tests_chn (f : E → Sto → R D) (o o' : CO) (a b d : E) : tests f (n + 1) (.chn o o' a b d) S = (f (.chn o o' a b d) S).bind fun d S1 => tst S1 d := rfl
theorem tests_isi (f : E → Sto → R D) (a : E) (t : String) : tests f (n + 1) (.isi a t) S = (f (.isi a t) S).bind fun d S1 => tst S1 d := rfl
theorem tests_exi (f : E → Sto → R D) (k : Nat) : tests f (n + 1) (.exi k) S = (f (.exi k) S).bind fun d S1 => tst S1 d := rfl
theorem tests_v (f : E → Sto → R D) (i : Nat) : tests f (n + 1) (.v i) S = (f (.v i) S).bind fun d S1 => tst S1 d := rfl
theorem tests_k (f : E → Sto → R D) (d : D) : tests f (n + 1) (.k d) S = (f (.k d) S).bind fun d S1 => tst S1 d := rfl
theorem tests_ix (f : E → Sto → R D) (a i : E) : tests f (n + 1) (.ix a i) S = (f (.ix a i) S).bind fun d S1 => tst S1 d := rfl
theorem tst_bl (b : Bool) : tst S (.bl b) = .ok b S := rfl
theorem put_n (i : Nat) (d : D) : T.put S (.n i) d δ = some (δ.set i (some d)) := by simp [T.put]
end
end IT
end
section
set_option Elab.async false
set_option linter.all false
set_option maxRecDepth 100000
set_option autoImplicit false
/-! IT: the evaluator without fuel -/
namespace IT
mutual
def E.dep : E → Nat
  | .v _ => 0
  | .k _ => 0
  | .g _ => 0
  | .bin _ a b => max a.dep b.dep + 1
  | .cmp _ a b => max a.dep b.dep + 1
  | .chn _ _ a b c => max a.dep (max b.dep c.dep) + 1
  | .neg a => a.dep + 1
  | .nt a => a.dep + 1
  | .and a b => max a.dep b.dep + 1
  | .or a b => max a.dep b.dep + 1
  | .ite c a b => max c.dep (max a.dep b.dep) + 1
  | .tup es => E.deps es + 1
  | .lst es => E.deps es + 1
  | .nlst es => E.deps es + 1
  | .ix a i => max a.dep i.dep + 1
  | .sl a lo hi => max a.dep (max (E.depo lo) (E.depo hi)) + 1
  | .rev a => a.dep + 1
  | .call _ es => E.deps es + 1
  | .callv _ es => E.deps es + 1
  | .lam _ b => b.dep + 1
  | .bi _ es => E.deps es + 1
  | .isi a _ => a.dep + 1
  | .exi _ => 0
  | .exf => 0
  | .app o e => max o.dep e.dep + 1
  | .join a b => max a.dep b.dep + 1
  | .lc _ elt _ it c _ => max elt.dep (max it.dep (E.depo c)) + 1
  | .rng lo hi => max (E.depo lo) hi.dep
  | .zip a b => max a.dep b.dep
  | .enum a => a.dep
def E.deps : List E → Nat
  | [] => 0
  | e :: r => max e.dep (E.deps r)
def E.depo : Option E → Nat
  | none => 0
  | some e => e.dep
end
theorem deps_mem : ∀ {es : List E} {e : E}, e ∈ es → e.dep ≤ E.deps es
  | a :: r, e, h => by
    rw [E.deps]
    rcases List.mem_cons.mp h with rfl | h
    · exact Nat.le_max_left _ _
    · exact Nat.le_trans (deps_mem h) (Nat.le_max_right _ _)
theorem evs_congr {f g : E → Sto → R D} : ∀ {es : List E}, (∀ e ∈ es, f e = g e) → evs f es = evs g es
  | [], _ => rfl
  | e :: r, h => by
    funext S
    simp only [evs]
    rw [h e List.mem_cons_self, evs_congr fun e he => h e (List.mem_cons_of_mem _ he)]
/-- a test, without fuel -/
def testx (f : E → Sto → R D) : E → Sto → R Bool
  | .and a b, S => (testx f a S).bind fun c S1 => if c = true then testx f b S1 else .ok false S1
  | .or a b, S => (testx f a S).bind fun c S1 => if c = true then .ok true S1 else testx f b S1
  | .nt a, S => (testx f a S).bind fun c S1 => .ok (!c) S1
  | .ite _ _ _, _ => .bad
  | e, S => (f e S).bind fun d S1 => tst S1 d
theorem tests_eq {f g : E → Sto → R D} : ∀ (n : Nat) (e : E), e.dep < n → (∀ x : E, x.dep ≤ e.dep → f x = g x) → tests f n e = testx g e
  | 0, _, h, _ => absurd h (Nat.not_lt_zero _)
  | n + 1, e, h, hf => by
    funext S
    cases e with
    | and a b =>
      rw [E.dep] at h hf
      rw [tests, testx, tests_eq n a (by omega) fun x hx => hf x (by omega), tests_eq n b (by omega) fun x hx => hf x (by omega)]
    | or a b =>
      rw [E.dep] at h hf
      rw [tests, testx, tests_eq n a (by omega) fun x hx => hf x (by omega), tests_eq n b (by omega) fun x hx => hf x (by omega)]
    | nt a =>
      rw [E.dep] at h hf
      rw [tests, testx, tests_eq n a (by omega) fun x hx => hf x (by omega)]
    | ite a b c => rfl
    | _ => simp only [tests, testx]; rw [hf _ (Nat.le_refl _)]
theorem items_congr {f g : E → Sto → R D} (e : E) (h : ∀ x : E, x.dep ≤ e.dep → f x = g x) : items f e = items g e := by
  funext S
  cases e with
  | rng lo hi =>
    rw [E.dep] at h
    cases lo with
    | none => simp only [items]; rw [h hi (by omega)]
    | some lo => simp only [items]; rw [h hi (by omega), h lo (by rw [E.depo]; omega)]
  | zip a b =>
    rw [E.dep] at h
    simp only [items]; rw [h a (by omega), h b (by omega)]
  | enum a =>
    rw [E.dep] at h
    simp only [items]; rw [h a (by omega)]
  | _ => simp only [items]; rw [h _ (Nat.le_refl _)]
theorem itemsL_congr {f g : E → Sto → R D} (e : E) (h : f e = g e) : itemsL f e = itemsL g e := by
  funext S
  simp only [itemsL]; rw [h]
theorem evo_congr {f g : E → Sto → R D} (e : Option E) (h : ∀ x ∈ e, f x = g x) : evo f e = evo g e := by
  funext S
  cases e with
  | none => rfl
  | some e => simp only [evo]; rw [h e rfl]
section
variable (c : Calls) (G : Nat → Nat → Option Bool)
theorem ev_fuel (cx : Ct) : ∀ (n m : Nat) (e : E), e.dep < n → e.dep < m → ev c G n cx e = ev c G m cx e
  | 0, _, _, h, _ => absurd h (Nat.not_lt_zero _)
  | _, 0, _, _, h => absurd h (Nat.not_lt_zero _)
  | n + 1, m + 1, e, h, h' => by
    have ih := ev_fuel cx n m
    have ihf : ∀ δ, ∀ x : E, x.dep < n → x.dep < m → (fun e S => ev c G n cx e δ S) x = (fun e S => ev c G m cx e δ S) x := fun δ x h1 h2 => by
      funext S; show ev c G n cx x δ S = ev c G m cx x δ S; rw [ih x h1 h2]
    have ihs : ∀ δ es, E.deps es < n → E.deps es < m → evs (fun e S => ev c G n cx e δ S) es = evs (fun e S => ev c G m cx e δ S) es := fun δ es h1 h2 => evs_congr fun e he => ihf δ e (Nat.lt_of_le_of_lt (deps_mem he) h1) (Nat.lt_of_le_of_lt (deps_mem he) h2)
    have iho : ∀ δ eo, E.depo eo < n → E.depo eo < m → evo (fun e S => ev c G n cx e δ S) eo = evo (fun e S => ev c G m cx e δ S) eo := fun δ eo h1 h2 => evo_congr eo fun x hx => by
      cases eo with
      | none => cases hx
      | some y => cases hx; exact ihf δ _ h1 h2
    have iht : ∀ δ e, e.dep < n → e.dep < m → tests (fun e S => ev c G n cx e δ S) n e = tests (fun e S => ev c G m cx e δ S) m e := fun δ e h1 h2 => by
      rw [tests_eq n e h1 (g := fun e S => ev c G m cx e δ S) fun x hx => ihf δ x (by omega) (by omega), tests_eq m e h2 fun x hx => rfl]
    funext δ S
    cases e with
    | v i => rfl
    | k d => rfl
    | g i => rfl
    | exi i => rfl
    | exf => rfl
    | rng a b => rfl
    | zip a b => rfl
    | enum a => rfl
    | bin o a b =>
      rw [E.dep] at h h'
      simp only [ev]; rw [ih a (by omega) (by omega), ih b (by omega) (by omega)]
    | cmp o a b =>
      rw [E.dep] at h h'
      simp only [ev]; rw [ih a (by omega) (by omega), ih b (by omega) (by omega)]
    | chn o o' a b d =>
      rw [E.dep] at h h'
      simp only [ev]; rw [ih a (by omega) (by omega), ih b (by omega) (by omega), ih d (by omega) (by omega)]
    | neg a =>
      rw [E.dep] at h h'
      simp only [ev]; rw [ih a (by omega) (by omega)]
    | nt a =>
      rw [E.dep] at h h'
      simp only [ev]; rw [ih a (by omega) (by omega)]
    | and a b =>
      rw [E.dep] at h h'
      simp only [ev]; rw [ih a (by omega) (by omega), ih b (by omega) (by omega)]
    | or a b =>
      rw [E.dep] at h h'
      simp only [ev]; rw [ih a (by omega) (by omega), ih b (by omega) (by omega)]
    | ite t a b =>
      rw [E.dep] at h h'
      simp only [ev]; rw [ih a (by omega) (by omega), ih b (by omega) (by omega), iht δ t (by omega) (by omega)]
    | tup es =>
      rw [E.dep] at h h'
      simp only [ev]; rw [ihs δ es (by omega) (by omega)]
    | lst es =>
      rw [E.dep] at h h'
      simp only [ev]; rw [ihs δ es (by omega) (by omega)]
    | nlst es =>
      rw [E.dep] at h h'
      simp only [ev]; rw [ihs δ es (by omega) (by omega)]
    | ix a i =>
      rw [E.dep] at h h'
      simp only [ev]; rw [ih a (by omega) (by omega), ih i (by omega) (by omega)]
    | sl a lo hi =>
      rw [E.dep] at h h'
      simp only [ev]; rw [ih a (by omega) (by omega), iho δ lo (by omega) (by omega), iho δ hi (by omega) (by omega)]
    | rev a =>
      rw [E.dep] at h h'
      simp only [ev]; rw [ih a (by omega) (by omega)]
    | call f es =>
      rw [E.dep] at h h'
      simp only [ev]; rw [ihs δ es (by omega) (by omega)]
    | callv f es =>
      rw [E.dep] at h h'
      simp only [ev]; rw [ihs δ es (by omega) (by omega)]
    | lam f b => rfl
    | bi b es =>
      rw [E.dep] at h h'
      simp only [ev]; rw [ihs δ es (by omega) (by omega)]
    | isi a t =>
      rw [E.dep] at h h'
      simp only [ev]; rw [ih a (by omega) (by omega)]
    | app o e =>
      rw [E.dep] at h h'
      simp only [ev]; rw [ih o (by omega) (by omega), ih e (by omega) (by omega)]
    | join a b =>
      rw [E.dep] at h h'
      simp only [ev]; rw [ih a (by omega) (by omega), ih b (by omega) (by omega)]
    | lc nw elt tg it t own =>
      rw [E.dep] at h h'
      simp only [ev]
      have e1 : (fun δ S => ev c G n cx elt δ S) = (fun δ S => ev c G m cx elt δ S) := by rw [ih elt (by omega) (by omega)]
      have e2 : (fun δ S => if cx.h.isNone = true then items (fun e S => ev c G n cx e δ S) it S else itemsL (fun e S => ev c G n cx e δ S) it S) = (fun δ S => if cx.h.isNone = true then items (fun e S => ev c G m cx e δ S) it S else itemsL (fun e S => ev c G m cx e δ S) it S) := by
        funext δ S
        rw [items_congr it (g := fun e S => ev c G m cx e δ S) fun x hx => ihf δ x (by omega) (by omega), itemsL_congr (f := fun e S => ev c G n cx e δ S) (g := fun e S => ev c G m cx e δ S) it (ihf δ it (by omega) (by omega))]
      have e3 : (t.map fun t δ S => tests (fun e S => ev c G n cx e δ S) n t S) = (t.map fun t δ S => tests (fun e S => ev c G m cx e δ S) m t S) := by
        cases t with
        | none => rfl
        | some t =>
          simp only [Option.map_some]
          congr 1
          funext δ S
          rw [iht δ t (by rw [E.depo] at h; omega) (by rw [E.depo] at h'; omega)]
      rw [e1, e2, e3]
/-- an expression, as much fuel as it wants -/
def evx (cx : Ct) (e : E) (δ : Env) (S : Sto) : R D := ev c G (e.dep + 1) cx e δ S
theorem ev_x (cx : Ct) {n : Nat} {e : E} (h : e.dep < n) : ev c G n cx e = evx c G cx e := by
  funext δ S
  show _ = ev c G (e.dep + 1) cx e δ S
  rw [ev_fuel c G cx n (e.dep + 1) e h (Nat.lt_succ_self _)]
theorem ev_xf (cx : Ct) (δ : Env) {n : Nat} {e : E} (h : e.dep < n) : (fun e S => ev c G n cx e δ S) e = (fun e S => evx c G cx e δ S) e := by
  funext S
  show ev c G n cx e δ S = evx c G cx e δ S
  rw [ev_x c G cx h]
theorem evs_x (cx : Ct) (δ : Env) {n : Nat} {es : List E} (h : E.deps es < n) : evs (fun e S => ev c G n cx e δ S) es = evs (fun e S => evx c G cx e δ S) es :=
  evs_congr fun e he => ev_xf c G cx δ (Nat.lt_of_le_of_lt (deps_mem he) h)
theorem evo_x (cx : Ct) (δ : Env) {n : Nat} {eo : Option E} (h : E.depo eo < n) : evo (fun e S => ev c G n cx e δ S) eo = evo (fun e S => evx c G cx e δ S) eo :=
  evo_congr eo fun x hx => by
    cases eo with
    | none => cases hx
    | some y => cases hx; exact ev_xf c G cx δ h
theorem tests_x (cx : Ct) (δ : Env) {n m : Nat} {e : E} (h : e.dep < n) (h' : e.dep < m) : tests (fun e S => ev c G n cx e δ S) m e = testx (fun e S => evx c G cx e δ S) e :=
  tests_eq m e h' fun x hx => ev_xf c G cx δ (Nat.lt_of_le_of_lt hx h)
theorem items_x (cx : Ct) (δ : Env) {n : Nat} {e : E} (h : e.dep < n) : items (fun e S => ev c G n cx e δ S) e = items (fun e S => evx c G cx e δ S) e :=
  items_congr e fun x hx => ev_xf c G cx δ (Nat.lt_of_le_of_lt hx h)
end
section
variable (c : Calls) (G : Nat → Nat → Option Bool) (cx : Ct) (δ : Env) (S : Sto)
theorem evx_v (i : Nat) : evx c G cx (.v i) δ S = (match δ[i]? with | some (some d) => .ok d S | _ => .bad) := (rfl)
theorem evx_k (d : D) : evx c G cx (.k d) δ S = .ok d S := (rfl)
theorem evx_g (i : Nat) : evx c G cx (.g i) δ S = .ok (.glo i) S := (rfl)
theorem evx_exi (i : Nat) : evx c G cx (.exi i) δ S = (match cx.h with | some (j, _) => (match G j i with | some b => .ok (.bl b) S | none => .bad) | none => .bad) := (rfl)
theorem evx_exf : evx c G cx .exf δ S = (match cx.h with | some (_, x) => .ok x S | none => .bad) := (rfl)
theorem evx_bin (o : BO) (a b : E) : evx c G cx (.bin o a b) δ S = (evx c G cx a δ S).bind fun x S1 => (evx c G cx b δ S1).bind fun y S2 => binop o x y S2 := by
  show ev c G ((E.bin o a b).dep + 1) cx (.bin o a b) δ S = _
  (rw [ev_bin, ev_x c G cx (e := a) (by rw [E.dep]; omega), ev_x c G cx (e := b) (by rw [E.dep]; omega)]) <;> rfl
theorem evx_cmp (o : CO) (a b : E) : evx c G cx (.cmp o a b) δ S = (evx c G cx a δ S).bind fun x S1 => (evx c G cx b δ S1).bind fun y S2 => cmpR o x y S2 := by
  show ev c G ((E.cmp o a b).dep + 1) cx (.cmp o a b) δ S = _
  (rw [ev_cmp, ev_x c G cx (e := a) (by rw [E.dep]; omega), ev_x c G cx (e := b) (by rw [E.dep]; omega)]) <;> rfl
theorem evx_chn (o o' : CO) (a b d : E) : evx c G cx (.chn o o' a b d) δ S = (evx c G cx a δ S).bind fun x S1 => (evx c G cx b δ S1).bind fun y S2 => match cmpop o x y S2 with
      | some true => (evx c G cx d δ S2).bind fun z S3 => cmpR o' y z S3
      | some false => .ok (.bl false) S2
      | none => .bad := by
  show ev c G ((E.chn o o' a b d).dep + 1) cx (.chn o o' a b d) δ S = _
  (rw [ev_chn, ev_x c G cx (e := a) (by rw [E.dep]; omega), ev_x c G cx (e := b) (by rw [E.dep]; omega), ev_x c G cx (e := d) (by rw [E.dep]; omega)]) <;> rfl
theorem evx_neg (a : E) : evx c G cx (.neg a) δ S = (evx c G cx a δ S).bind fun x S1 => match x with | .int i => .ok (.int (-i)) S1 | _ => .bad := by
  show ev c G ((E.neg a).dep + 1) cx (.neg a) δ S = _
  (rw [ev_neg, ev_x c G cx (e := a) (by rw [E.dep]; omega)]) <;> rfl
theorem evx_nt (a : E) : evx c G cx (.nt a) δ S = (evx c G cx a δ S).bind fun x S1 => (tst S1 x).bind fun b S2 => .ok (.bl (!b)) S2 := by
  show ev c G ((E.nt a).dep + 1) cx (.nt a) δ S = _
  (rw [ev_nt, ev_x c G cx (e := a) (by rw [E.dep]; omega)]) <;> rfl
theorem evx_and (a b : E) : evx c G cx (.and a b) δ S = (evx c G cx a δ S).bind fun x S1 => (tst S1 x).bind fun k S2 => if k = true then evx c G cx b δ S2 else .ok x S2 := by
  show ev c G ((E.and a b).dep + 1) cx (.and a b) δ S = _
  (rw [ev_and, ev_x c G cx (e := a) (by rw [E.dep]; omega), ev_x c G cx (e := b) (by rw [E.dep]; omega)]) <;> rfl
theorem evx_or (a b : E) : evx c G cx (.or a b) δ S = (evx c G cx a δ S).bind fun x S1 => (tst S1 x).bind fun k S2 => if k = true then .ok x S2 else evx c G cx b δ S2 := by
  show ev c G ((E.or a b).dep + 1) cx (.or a b) δ S = _
  (rw [ev_or, ev_x c G cx (e := a) (by rw [E.dep]; omega), ev_x c G cx (e := b) (by rw [E.dep]; omega)]) <;> rfl
theorem evx_ite (t a b : E) : evx c G cx (.ite t a b) δ S = (testx (fun e S => evx c G cx e δ S) t S).bind fun k S1 => if k = true then evx c G cx a δ S1 else evx c G cx b δ S1 := by
  show ev c G ((E.ite t a b).dep + 1) cx (.ite t a b) δ S = _
  (rw [ev_ite, tests_x c G cx δ (e := t) (by rw [E.dep]; omega) (by rw [E.dep]; omega), ev_x c G cx (e := a) (by rw [E.dep]; omega), ev_x c G cx (e := b) (by rw [E.dep]; omega)]) <;> rfl
theorem evx_tup (es : List E) : evx c G cx (.tup es) δ S = (evs (fun e S => evx c G cx e δ S) es S).bind fun ds S1 => if ds.length ≤ PySem.sizeLine then .ok (.tup ds) S1 else .bad := by
  show ev c G ((E.tup es).dep + 1) cx (.tup es) δ S = _
  (rw [ev_tup, evs_x c G cx δ (es := es) (by rw [E.dep]; omega)]) <;> rfl
theorem evx_lst (es : List E) : evx c G cx (.lst es) δ S = (evs (fun e S => evx c G cx e δ S) es S).bind fun ds S1 => if ds.length ≤ PySem.sizeLine then .ok (.lst ds) S1 else .bad := by
  show ev c G ((E.lst es).dep + 1) cx (.lst es) δ S = _
  (rw [ev_lst, evs_x c G cx δ (es := es) (by rw [E.dep]; omega)]) <;> rfl
theorem evx_nlst (es : List E) : evx c G cx (.nlst es) δ S = (evs (fun e S => evx c G cx e δ S) es S).bind fun ds S1 => if ds.length ≤ PySem.sizeLine then .ok (.ref S1.length) (S1 ++ [.lst ds]) else .bad := by
  show ev c G ((E.nlst es).dep + 1) cx (.nlst es) δ S = _
  (rw [ev_nlst, evs_x c G cx δ (es := es) (by rw [E.dep]; omega)]) <;> rfl
theorem evx_ix (a i : E) : evx c G cx (.ix a i) δ S = (evx c G cx a δ S).bind fun x S1 => (evx c G cx i δ S1).bind fun y S2 => index x y S2 := by
  show ev c G ((E.ix a i).dep + 1) cx (.ix a i) δ S = _
  (rw [ev_ix, ev_x c G cx (e := a) (by rw [E.dep]; omega), ev_x c G cx (e := i) (by rw [E.dep]; omega)]) <;> rfl
theorem evx_sl (a : E) (lo hi : Option E) : evx c G cx (.sl a lo hi) δ S = (evx c G cx a δ S).bind fun x S1 => (evo (fun e S => evx c G cx e δ S) lo S1).bind fun l S2 => (evo (fun e S => evx c G cx e δ S) hi S2).bind fun h S3 => slice x l h S3 := by
  show ev c G ((E.sl a lo hi).dep + 1) cx (.sl a lo hi) δ S = _
  (rw [ev_sl, ev_x c G cx (e := a) (by rw [E.dep]; omega), evo_x c G cx δ (eo := lo) (by rw [E.dep]; omega), evo_x c G cx δ (eo := hi) (by rw [E.dep]; omega)]) <;> rfl
theorem evx_rev (a : E) : evx c G cx (.rev a) δ S = (evx c G cx a δ S).bind fun x S1 => revd x S1 := by
  show ev c G ((E.rev a).dep + 1) cx (.rev a) δ S = _
  (rw [ev_rev, ev_x c G cx (e := a) (by rw [E.dep]; omega)]) <;> rfl
theorem evx_app (o e : E) : evx c G cx (.app o e) δ S = (evx c G cx o δ S).bind fun x S1 => (match x with | .ref m => (evx c G cx e δ S1).bind fun y S2 => append (.ref m) y S2 | _ => .bad) := by
  show ev c G ((E.app o e).dep + 1) cx (.app o e) δ S = _
  (rw [ev_app, ev_x c G cx (e := o) (by rw [E.dep]; omega), ev_x c G cx (e := e) (by rw [E.dep]; omega)]) <;> rfl
theorem ev_join (n : Nat) (a b : E) : ev c G (n + 1) cx (.join a b) δ S = (ev c G n cx a δ S).bind fun x S1 => (match x with | .str z => (ev c G n cx b δ S1).bind fun y S2 => joinD (.str z) y S2 | _ => .bad) := rfl
theorem evx_join (a b : E) : evx c G cx (.join a b) δ S = (evx c G cx a δ S).bind fun x S1 => (match x with | .str z => (evx c G cx b δ S1).bind fun y S2 => joinD (.str z) y S2 | _ => .bad) := by
  show ev c G ((E.join a b).dep + 1) cx (.join a b) δ S = _
  (rw [ev_join, ev_x c G cx (e := a) (by rw [E.dep]; omega), ev_x c G cx (e := b) (by rw [E.dep]; omega)]) <;> rfl
theorem evx_call (f : Nat) (es : List E) (h : c.kn f = true) : evx c G {} (.call f es) δ S = (evs (fun e S => evx c G {} e δ S) es S).bind fun ds S1 => c.ca f ds S1 := by
  show ev c G ((E.call f es).dep + 1) {} (.call f es) δ S = _
  (rw [ev_call c G _ _ _ _ _ h, evs_x c G {} δ (es := es) (by rw [E.dep]; omega)]) <;> rfl
theorem ev_callv (n i : Nat) (es : List E) : ev c G (n + 1) {} (.callv i es) δ S = (match δ[i]? with | some (some (.glo f)) => if c.kn f = true then (evs (fun e S => ev c G n {} e δ S) es S).bind fun ds S1 => c.ca f ds S1 else .bad | _ => .bad) := rfl
theorem evx_callv (i : Nat) (es : List E) : evx c G {} (.callv i es) δ S = (match δ[i]? with | some (some (.glo f)) => if c.kn f = true then (evs (fun e S => evx c G {} e δ S) es S).bind fun ds S1 => c.ca f ds S1 else .bad | _ => .bad) := by
  show ev c G ((E.callv i es).dep + 1) {} (.callv i es) δ S = _
  (rw [ev_callv, evs_x c G {} δ (es := es) (by rw [E.dep]; omega)]) <;> rfl
theorem evx_lam (f : Nat) (b : E) : evx c G {} (.lam f b) δ S = c.cl f b δ S := (rfl)
theorem evx_bi (b : BI) (es : List E) : evx c G {} (.bi b es) δ S = (evs (fun e S => evx c G {} e δ S) es S).bind fun ds S1 => bins b ds S1 := by
  show ev c G ((E.bi b es).dep + 1) {} (.bi b es) δ S = _
  (rw [ev_bi, evs_x c G {} δ (es := es) (by rw [E.dep]; omega)]) <;> rfl
theorem evx_isi (a : E) (t : String) : evx c G {} (.isi a t) δ S = (evx c G {} a δ S).bind fun x S1 => isiD t x S1 := by
  show ev c G ((E.isi a t).dep + 1) {} (.isi a t) δ S = _
  (rw [ev_isi, ev_x c G {} (e := a) (by rw [E.dep]; omega)]) <;> rfl
theorem evx_lc (m : Bool) (elt : E) (tg : T) (it : E) (own : List Nat) : evx c G {} (.lc m elt tg it none own) δ S = (items (fun e S => evx c G {} e δ S) it S).bind fun q S1 => (lcl (stands q.2) (turnF tg none (fun δ S => evx c G {} elt δ S) own δ) q.1 [] S1).bind (lcF m) := by
  show ev c G ((E.lc m elt tg it none own).dep + 1) {} (.lc m elt tg it none own) δ S = _
  rw [ev_lc]
  unfold lcR
  have e1 : (fun δ S => ev c G (E.lc m elt tg it none own).dep {} elt δ S) = (fun δ S => evx c G {} elt δ S) := by rw [ev_x c G {} (e := elt) (by rw [E.dep]; omega)]
  rw [e1]
  show (items (fun e S => ev c G (E.lc m elt tg it none own).dep {} e δ S) it S).bind _ = _
  rw [items_x c G {} δ (e := it) (by rw [E.dep]; omega)]
  rfl
theorem evx_lcq (m : Bool) (elt : E) (tg : T) (it t : E) (own : List Nat) : evx c G {} (.lc m elt tg it (some t) own) δ S = (items (fun e S => evx c G {} e δ S) it S).bind fun q S1 => (lcl (stands q.2) (turnF tg (some fun δ S => testx (fun e S => evx c G {} e δ S) t S) (fun δ S => evx c G {} elt δ S) own δ) q.1 [] S1).bind (lcF m) := by
  show ev c G ((E.lc m elt tg it (some t) own).dep + 1) {} (.lc m elt tg it (some t) own) δ S = _
  rw [ev_lc]
  unfold lcR
  have e1 : (fun δ S => ev c G (E.lc m elt tg it (some t) own).dep {} elt δ S) = (fun δ S => evx c G {} elt δ S) := by rw [ev_x c G {} (e := elt) (by rw [E.dep]; omega)]
  have e2 : (fun δ S => tests (fun e S => ev c G (E.lc m elt tg it (some t) own).dep {} e δ S) (E.lc m elt tg it (some t) own).dep t S) = (fun δ S => testx (fun e S => evx c G {} e δ S) t S) := by
    funext δ S
    rw [tests_x c G {} δ (e := t) (by rw [E.dep, E.depo]; omega) (by rw [E.dep, E.depo]; omega)]
  rw [e1]
  show (items (fun e S => ev c G (E.lc m elt tg it (some t) own).dep {} e δ S) it S).bind (fun q S1 => (lcl (stands q.2) (turnF tg (some (fun δ S => tests (fun e S => ev c G (E.lc m elt tg it (some t) own).dep {} e δ S) (E.lc m elt tg it (some t) own).dep t S)) _ own δ) q.1 [] S1).bind (lcF m)) = _
  rw [e2, items_x c G {} δ (e := it) (by rw [E.dep]; omega)]
end
/-! ### statements -/
mutual
def S.sd : S → Nat
  | .ite _ a b => max (S.sds a) (S.sds b) + 1
  | .for_ _ _ b => S.sds b + 1
  | .whl _ b => S.sds b + 1
  | .tr b _ _ h => max (S.sds b) (S.sds h) + 1
  | _ => 0
def S.sds : List S → Nat
  | [] => 0
  | s :: r => max s.sd (S.sds r)
end
mutual
/-- the expressions are within the fuel -/
def S.fit : S → Bool
  | .asg _ e => decide (e.dep < AF)
  | .setix o i e => decide (o.dep < AF) && decide (i.dep < AF) && decide (e.dep < AF)
  | .ex e => decide (e.dep < AF)
  | .ite c a b => decide (c.dep < AF) && S.fits a && S.fits b
  | .for_ _ it b => decide (it.dep < AF) && S.fits b
  | .whl c b => decide (c.dep < AF) && S.fits b
  | .ret none => true
  | .ret (some e) => decide (e.dep < AF)
  | .tr b _ _ h => S.fits b && S.fits h
  | _ => true
def S.fits : List S → Bool
  | [] => true
  | s :: r => s.fit && S.fits r
end
def exF (c : Calls) (G : Nat → Nat → Option Bool) : Nat → Ct → S → Env → Sto → O
  | 0, _, _, _, _ => .bad
  | n + 1, cx, s, δ, S => match s with
    | .asg t e => .ofR (evx c G cx e δ S) fun d S1 => match T.put S1 t d δ with
      | some δ' => .nx δ' S1
      | none => .bad
    | .setix o i e => .ofR (evx c G cx e δ S) fun y S1 => .ofR (evx c G cx o δ S1) fun x S2 => .ofR (evx c G cx i δ S2) fun j S3 => match setAt x j y S3 with
      | some S4 => .nx δ S4
      | none => .bad
    | .ex e => .ofR (evx c G cx e δ S) fun _ S1 => .nx δ S1
    | .ite t a b => .ofR (testx (fun e S => evx c G cx e δ S) t S) fun k S1 => if k = true then exs (exF c G n cx) a δ S1 else exs (exF c G n cx) b δ S1
    | .for_ t it b => if cx.h.isNone = true then .ofR (items (fun e S => evx c G cx e δ S) it S) fun q S1 => forl (stands q.2) (fun x δ S => match T.put S t x δ with
      | some δ' => exs (exF c G n cx) b δ' S
      | none => .bad) q.1 δ S1 else .bad
    | .whl t b => if cx.h.isNone = true then whl (fun δ S => testx (fun e S => evx c G cx e δ S) t S) (fun δ S => exs (exF c G n cx) b δ S) WF δ S else .bad
    | .ret none => .rt .non S
    | .ret (some e) => .ofR (evx c G cx e δ S) fun d S1 => .rt d S1
    | .brk => .bk δ S
    | .cnt => .ct δ S
    | .pas => .nx δ S
    | .rai k => if cx.h.isNone = true then .ex k .non S else .bad
    | .no => .bad
    | .tr b k i h => if cx.h.isNone = true then (match exs (exF c G n cx) b δ S with
      | .ex j x S1 => (match G j k with
        | some true => exs (exF c G n { h := some (j, x) }) h (List.replicate δ.length none) S1
        | some false => .ex j x S1
        | none => .bad)
      | o => o) else .bad
theorem exs_congr {f g : IT.S → Env → Sto → O} : ∀ {b : List IT.S}, (∀ s ∈ b, f s = g s) → exs f b = exs g b
  | [], _ => rfl
  | s :: r, h => by
    funext δ S
    simp only [exs]
    rw [h s List.mem_cons_self, exs_congr fun s hs => h s (List.mem_cons_of_mem _ hs)]
theorem fits_mem : ∀ {b : List S} {s : S}, S.fits b = true → s ∈ b → s.fit = true
  | a :: r, s, h, hs => by
    rw [S.fits, Bool.and_eq_true] at h
    rcases List.mem_cons.mp hs with rfl | hs
    · exact h.1
    · exact fits_mem h.2 hs
theorem sds_mem : ∀ {b : List S} {s : S}, s ∈ b → s.sd ≤ S.sds b
  | a :: r, s, h => by
    rw [S.sds]
    rcases List.mem_cons.mp h with rfl | h
    · exact Nat.le_max_left _ _
    · exact Nat.le_trans (sds_mem h) (Nat.le_max_right _ _)
section
variable (c : Calls) (G : Nat → Nat → Option Bool)
theorem ex_F : ∀ (n : Nat) (cx : Ct) (s : S), s.fit = true → ex c G n cx s = exF c G n cx s
  | 0, _, _, _ => rfl
  | n + 1, cx, s, h => by
    have ihs : ∀ cx (b : List S), IT.S.fits b = true → exs (ex c G n cx) b = exs (exF c G n cx) b := fun cx b hb => exs_congr fun s hs => ex_F n cx s (fits_mem hb hs)
    funext δ S
    cases s with
    | asg t e => rw [IT.S.fit, decide_eq_true_eq] at h; simp only [ex, exF]; (rw [ev_x c G cx h]) <;> rfl
    | setix o i e =>
      simp only [IT.S.fit, Bool.and_eq_true, decide_eq_true_eq] at h
      simp only [ex, exF]; (rw [ev_x c G cx h.1.1, ev_x c G cx h.1.2, ev_x c G cx h.2]) <;> rfl
    | ex e => rw [IT.S.fit, decide_eq_true_eq] at h; simp only [ex, exF]; (rw [ev_x c G cx h]) <;> rfl
    | ite t a b =>
      simp only [IT.S.fit, Bool.and_eq_true, decide_eq_true_eq] at h
      simp only [ex, exF]; (rw [tests_x c G cx δ h.1.1 h.1.1, ihs cx a h.1.2, ihs cx b h.2]) <;> rfl
    | for_ t it b =>
      simp only [IT.S.fit, Bool.and_eq_true, decide_eq_true_eq] at h
      simp only [ex, exF]; (rw [items_x c G cx δ h.1, ihs cx b h.2]) <;> rfl
    | whl t b =>
      simp only [IT.S.fit, Bool.and_eq_true, decide_eq_true_eq] at h
      simp only [ex, exF]
      have e1 : (fun δ S => tests (fun e S => ev c G AF cx e δ S) AF t S) = (fun δ S => testx (fun e S => evx c G cx e δ S) t S) := by
        funext δ S
        rw [tests_x c G cx δ h.1 h.1]
      rw [e1, ihs cx b h.2]
    | ret e =>
      cases e with
      | none => rfl
      | some e => rw [IT.S.fit, decide_eq_true_eq] at h; simp only [ex, exF]; (rw [ev_x c G cx h]) <;> rfl
    | brk => rfl
    | cnt => rfl
    | pas => rfl
    | rai k => rfl
    | no => rfl
    | tr b k i h' =>
      simp only [IT.S.fit, Bool.and_eq_true] at h
      simp only [ex, exF]
      rw [ihs cx b h.1]
      have := fun j x => ihs { h := some (j, x) } h' h.2
      simp only [this]
      try rfl
theorem exF_fuel : ∀ (n m : Nat) (cx : Ct) (s : S), s.sd < n → s.sd < m → exF c G n cx s = exF c G m cx s
  | 0, _, _, _, h, _ => absurd h (Nat.not_lt_zero _)
  | _, 0, _, _, _, h => absurd h (Nat.not_lt_zero _)
  | n + 1, m + 1, cx, s, h, h' => by
    have ihs : ∀ cx (b : List S), S.sds b < n → S.sds b < m → exs (exF c G n cx) b = exs (exF c G m cx) b := fun cx b h1 h2 => exs_congr fun s hs => exF_fuel n m cx s (Nat.lt_of_le_of_lt (sds_mem hs) h1) (Nat.lt_of_le_of_lt (sds_mem hs) h2)
    funext δ S
    cases s with
    | ite t a b =>
      rw [IT.S.sd] at h h'
      simp only [exF]; (rw [ihs cx a (by omega) (by omega), ihs cx b (by omega) (by omega)]) <;> rfl
    | for_ t it b =>
      rw [IT.S.sd] at h h'
      simp only [exF]; (rw [ihs cx b (by omega) (by omega)]) <;> rfl
    | whl t b =>
      rw [IT.S.sd] at h h'
      simp only [exF]; (rw [ihs cx b (by omega) (by omega)]) <;> rfl
    | tr b k i h1 =>
      rw [IT.S.sd] at h h'
      simp only [exF]
      rw [ihs cx b (by omega) (by omega)]
      have := fun j x => ihs { h := some (j, x) } h1 (by omega) (by omega)
      simp only [this]
    | ret e => cases e <;> rfl
    | _ => rfl
/-- a statement, as much fuel as it wants -/
def exx (cx : Ct) (s : S) (δ : Env) (S : Sto) : O := exF c G (s.sd + 1) cx s δ S
theorem exF_x (cx : Ct) {n : Nat} {s : S} (h : s.sd < n) : exF c G n cx s = exx c G cx s := by
  funext δ S
  show _ = exF c G (s.sd + 1) cx s δ S
  rw [exF_fuel c G n (s.sd + 1) cx s h (Nat.lt_succ_self _)]
theorem exsF_x (cx : Ct) {n : Nat} {b : List S} (h : S.sds b < n) : exs (exF c G n cx) b = exs (exx c G cx) b := exs_congr fun s hs => exF_x c G cx (Nat.lt_of_le_of_lt (sds_mem hs) h)
/-- a def's body within the fuel -/
theorem body_x (cx : Ct) {b : List S} (h : S.fits b = true) (h' : S.sds b < AF) : exs (ex c G AF cx) b = exs (exx c G cx) b := by
  rw [exs_congr fun s hs => ex_F c G AF cx s (fits_mem h hs), exsF_x c G cx h']
variable (cx : Ct) (δ : Env) (S : Sto)
theorem exx_asg (t : T) (e : E) : exx c G cx (.asg t e) δ S = .ofR (evx c G cx e δ S) fun d S1 => match T.put S1 t d δ with | some δ' => .nx δ' S1 | none => .bad := (rfl)
theorem exx_setix (o i e : E) : exx c G cx (.setix o i e) δ S = .ofR (evx c G cx e δ S) fun y S1 => .ofR (evx c G cx o δ S1) fun x S2 => .ofR (evx c G cx i δ S2) fun j S3 => match setAt x j y S3 with | some S4 => .nx δ S4 | none => .bad := (rfl)
theorem exx_ex (e : E) : exx c G cx (.ex e) δ S = .ofR (evx c G cx e δ S) fun _ S1 => .nx δ S1 := (rfl)
theorem exx_ite (t : E) (a b : List IT.S) : exx c G cx (.ite t a b) δ S = .ofR (testx (fun e S => evx c G cx e δ S) t S) fun k S1 => if k = true then exs (exx c G cx) a δ S1 else exs (exx c G cx) b δ S1 := by
  rw [← exsF_x c G cx (n := (IT.S.ite t a b).sd) (b := a) (by rw [IT.S.sd]; omega), ← exsF_x c G cx (n := (IT.S.ite t a b).sd) (b := b) (by rw [IT.S.sd]; omega)]
  rfl
theorem exx_for (t : T) (it : E) (b : List IT.S) : exx c G {} (.for_ t it b) δ S = .ofR (items (fun e S => evx c G {} e δ S) it S) fun q S1 => forl (stands q.2) (forF t (exs (exx c G {}) b)) q.1 δ S1 := by
  rw [← exsF_x c G {} (n := (IT.S.for_ t it b).sd) (b := b) (by rw [IT.S.sd]; omega)]
  rfl
theorem exx_whl (t : E) (b : List IT.S) : exx c G {} (.whl t b) δ S = whl (fun δ S => testx (fun e S => evx c G {} e δ S) t S) (exs (exx c G {}) b) WF δ S := by
  rw [← exsF_x c G {} (n := (IT.S.whl t b).sd) (b := b) (by rw [IT.S.sd]; omega)]
  unfold exx
  rw [exF]
  exact if_pos rfl
theorem exx_ret (e : E) : exx c G cx (.ret (some e)) δ S = .ofR (evx c G cx e δ S) fun d S1 => .rt d S1 := (rfl)
theorem exx_ret0 : exx c G cx (.ret none) δ S = .rt .non S := (rfl)
theorem exx_brk : exx c G cx .brk δ S = .bk δ S := (rfl)
theorem exx_cnt : exx c G cx .cnt δ S = .ct δ S := (rfl)
theorem exx_pas : exx c G cx .pas δ S = .nx δ S := (rfl)
theorem exx_rai (k : Nat) : exx c G {} (.rai k) δ S = .ex k .non S := (rfl)
theorem exx_tr (b : List IT.S) (k i : Nat) (h : List IT.S) : exx c G {} (.tr b k i h) δ S = (match exs (exx c G {}) b δ S with
      | .ex j x S1 => (match G j k with
        | some true => exs (exx c G { h := some (j, x) }) h (List.replicate δ.length none) S1
        | some false => .ex j x S1
        | none => .bad)
      | o => o) := by
  have e := fun cx => exsF_x c G cx (n := (IT.S.tr b k i h).sd) (b := h) (by rw [IT.S.sd]; omega)
  rw [← exsF_x c G {} (n := (IT.S.tr b k i h).sd) (b := b) (by rw [IT.S.sd]; omega)]
  simp only [← e]
  rfl
end
end IT
end
section
set_option Elab.async false
set_option linter.all false
set_option maxRecDepth 100000
set_option autoImplicit false
/-! IT: rules for symbolic runs; none of them is one by computation, so that the kernel never opens the evaluator -/
namespace IT.Y
open L2
section
variable {α β : Type} (S S1 : Sto) (δ : Env)
theorem b_ok (a : α) (f : α → Sto → R β) : (R.ok a S).bind f = f a S := (rfl)
theorem b_ex (c : Nat) (x : D) (f : α → Sto → R β) : (R.ex c x S : R α).bind f = .ex c x S := (rfl)
theorem o_ok (a : α) (f : α → Sto → O) : O.ofR (.ok a S) f = f a S := (rfl)
theorem o_ex (c : Nat) (x : D) (f : α → Sto → O) : O.ofR (R.ex c x S : R α) f = .ex c x S := (rfl)
theorem e_nil (f : E → Sto → R D) : evs f [] S = .ok [] S := (rfl)
theorem e_cons (f : E → Sto → R D) (e : E) (r : List E) : evs f (e :: r) S = (f e S).bind fun d S1 => (evs f r S1).bind fun ds S2 => .ok (d :: ds) S2 := (rfl)
theorem eo_none (f : E → Sto → R D) : evo f none S = .ok none S := (rfl)
theorem eo_some (f : E → Sto → R D) (e : E) : evo f (some e) S = (f e S).bind fun d S1 => match d with | .int i => .ok (some i) S1 | _ => .bad := (rfl)
theorem s_nil (f : IT.S → Env → Sto → O) : exs f [] δ S = .nx δ S := (rfl)
theorem s_cons (f : IT.S → Env → Sto → O) (s : IT.S) (r : List IT.S) : exs f (s :: r) δ S = (match f s δ S with | .nx δ' S' => exs f r δ' S' | o => o) := (rfl)
theorem t_bl (b : Bool) : tst S (.bl b) = .ok b S := (rfl)
theorem t_int (i : Int) : tst S (.int i) = .ok (i != 0) S := (rfl)
theorem t_tup (xs : List D) : tst S (.tup xs) = .ok (!xs.isEmpty) S := (rfl)
theorem t_lst (xs : List D) : tst S (.lst xs) = .ok (!xs.isEmpty) S := (rfl)
theorem t_non : tst S .non = .ok false S := (rfl)
theorem x_and (f : E → Sto → R D) (a b : E) : testx f (.and a b) S = (testx f a S).bind fun c S1 => if c = true then testx f b S1 else .ok false S1 := (rfl)
theorem x_or (f : E → Sto → R D) (a b : E) : testx f (.or a b) S = (testx f a S).bind fun c S1 => if c = true then .ok true S1 else testx f b S1 := (rfl)
theorem x_nt (f : E → Sto → R D) (a : E) : testx f (.nt a) S = (testx f a S).bind fun c S1 => .ok (!c) S1 := (rfl)
theorem x_v (f : E → Sto → R D) (i : Nat) : testx f (.v i) S = (f (.v i) S).bind fun d S1 => tst S1 d := (rfl)
theorem x_k (f : E → Sto → R D) (d : D) : testx f (.k d) S = (f (.k d) S).bind fun d S1 => tst S1 d := (rfl)
theorem x_cmp (f : E → Sto → R D) (o : CO) (a b : E) : testx f (.cmp o a b) S = (f (.cmp o a b) S).bind fun d S1 => tst S1 d := (rfl)
theorem x_chn (f : E → Sto → R D) (o o' : CO) (a b d : E) : testx f (.chn o o' a b d) S = (f (.chn o o' a b d) S).bind fun d S1 => tst S1 d := (rfl)
theorem x_call (f : E → Sto → R D) (i : Nat) (es : List E) : testx f (.call i es) S = (f (.call i es) S).bind fun d S1 => tst S1 d := (rfl)
theorem x_callv (f : E → Sto → R D) (i : Nat) (es : List E) : testx f (.callv i es) S = (f (.callv i es) S).bind fun d S1 => tst S1 d := (rfl)
theorem x_bi (f : E → Sto → R D) (b : BI) (es : List E) : testx f (.bi b es) S = (f (.bi b es) S).bind fun d S1 => tst S1 d := (rfl)
theorem x_isi (f : E → Sto → R D) (a : E) (t : String) : testx f (.isi a t) S = (f (.isi a t) S).bind fun d S1 => tst S1 d := (rfl)
theorem x_exi (f : E → Sto → R D) (k : Nat) : testx f (.exi k) S = (f (.exi k) S).bind fun d S1 => tst S1 d := (rfl)
theorem x_ix (f : E → Sto → R D) (a i : E) : testx f (.ix a i) S = (f (.ix a i) S).bind fun d S1 => tst S1 d := (rfl)
theorem x_bin (f : E → Sto → R D) (o : BO) (a b : E) : testx f (.bin o a b) S = (f (.bin o a b) S).bind fun d S1 => tst S1 d := (rfl)
/-! targets -/
theorem p_n (i : Nat) (d : D) : T.put S (.n i) d δ = some (δ.set i (some d)) := by simp [T.put]
theorem p_t (ts : List T) (xs : List D) : T.put S (.t ts) (.tup xs) δ = T.puts S ts xs δ := by rw [T.put]
theorem p_tl (ts : List T) (xs : List D) : T.put S (.t ts) (.lst xs) δ = T.puts S ts xs δ := by rw [T.put]; rfl; intro _ h; cases h
theorem ps_cons (g : T) (ts : List T) (x : D) (xs : List D) : T.puts S (g :: ts) (x :: xs) δ = (match T.put S g x δ with | some δ' => T.puts S ts xs δ' | none => none) := by rw [T.puts]; try rfl
theorem ps_nil : T.puts S [] [] δ = some δ := by rw [T.puts]
/-! what is walked -/
theorem i_v (f : E → Sto → R D) (i : Nat) : items f (.v i) S = (f (.v i) S).bind seqD := (rfl)
theorem i_ix (f : E → Sto → R D) (a i : E) : items f (.ix a i) S = (f (.ix a i) S).bind seqD := (rfl)
theorem i_tup (f : E → Sto → R D) (es : List E) : items f (.tup es) S = (f (.tup es) S).bind seqD := (rfl)
theorem i_lst (f : E → Sto → R D) (es : List E) : items f (.lst es) S = (f (.lst es) S).bind seqD := (rfl)
theorem i_k (f : E → Sto → R D) (d : D) : items f (.k d) S = (f (.k d) S).bind seqD := (rfl)
theorem i_bin (f : E → Sto → R D) (o : BO) (a b : E) : items f (.bin o a b) S = (f (.bin o a b) S).bind seqD := (rfl)
theorem i_call (f : E → Sto → R D) (i : Nat) (es : List E) : items f (.call i es) S = (f (.call i es) S).bind seqD := (rfl)
theorem i_sl (f : E → Sto → R D) (a : E) (lo hi : Option E) : items f (.sl a lo hi) S = (f (.sl a lo hi) S).bind seqD := (rfl)
theorem i_rev (f : E → Sto → R D) (a : E) : items f (.rev a) S = (f (.rev a) S).bind seqD := (rfl)
theorem i_lc (f : E → Sto → R D) (m : Bool) (e : E) (t : T) (i : E) (q : Option E) (own : List Nat) : items f (.lc m e t i q own) S = (f (.lc m e t i q own) S).bind seqD := (rfl)
theorem i_rng (f : E → Sto → R D) (b : E) : items f (.rng none b) S = (f b S).bind fun y S1 => rngR (.int 0) y S1 := (rfl)
theorem i_rng2 (f : E → Sto → R D) (a b : E) : items f (.rng (some a) b) S = (f a S).bind fun x S1 => (f b S1).bind fun y S2 => rngR x y S2 := (rfl)
theorem i_zip (f : E → Sto → R D) (a b : E) : items f (.zip a b) S = (f a S).bind fun x S1 => (f b S1).bind fun y S2 => zipR x y S2 := (rfl)
theorem i_enum (f : E → Sto → R D) (a : E) : items f (.enum a) S = (f a S).bind fun x S1 => enumR x S1 := (rfl)
theorem q_t (xs : List D) : seqD (.tup xs) S = .ok (xs, []) S := (rfl)
theorem q_l (xs : List D) : seqD (.lst xs) S = .ok (xs, []) S := (rfl)
theorem q_z (xs ys : List D) : zipR (.lst xs) (.lst ys) S = .ok (zipD xs ys, []) S := (rfl)
theorem q_zt (xs ys : List D) : zipR (.tup xs) (.tup ys) S = .ok (zipD xs ys, []) S := (rfl)
theorem q_e (xs : List D) : enumR (.lst xs) S = .ok (enumD 0 xs, []) S := (rfl)
theorem st_nil : stands [] S = true := (rfl)
/-! operations -/
theorem sz {k : Nat} (h : k ≤ 65536) : (k ≤ PySem.sizeLine) = True := by rw [PySem.sizeLine_eq]; simp; omega
theorem a_int (i j : Int) : binop .add (.int i) (.int j) S = .ok (.int (i + j)) S := (rfl)
theorem a_tup {xs ys : List D} (h : xs.length + ys.length ≤ 65536) : binop .add (.tup xs) (.tup ys) S = .ok (.tup (xs ++ ys)) S := by
  show (if xs.length + ys.length ≤ PySem.sizeLine then R.ok (D.tup (xs ++ ys)) S else .bad) = _
  rw [if_pos (by rw [PySem.sizeLine_eq]; omega)]
theorem a_lst {xs ys : List D} (h : xs.length + ys.length ≤ 65536) : binop .add (.lst xs) (.lst ys) S = .ok (.lst (xs ++ ys)) S := by
  show (if xs.length + ys.length ≤ PySem.sizeLine then R.ok (D.lst (xs ++ ys)) S else .bad) = _
  rw [if_pos (by rw [PySem.sizeLine_eq]; omega)]
theorem su_int (i j : Int) : binop .sub (.int i) (.int j) S = .ok (.int (i - j)) S := (rfl)
theorem mo_int {i j : Int} (h : 0 < j) : binop .mod (.int i) (.int j) S = .ok (.int (i % j)) S := by
  show (if 0 < j then R.ok (D.int (i % j)) S else .bad) = _
  rw [if_pos h]
theorem fd_int {i j : Int} (h : divOk j = true) : binop .fdiv (.int i) (.int j) S = .ok (.int (i / j)) S := by
  show (if divOk j = true then R.ok (D.int (i / j)) S else .bad) = _
  rw [if_pos h]
theorem mu_int {i j : Int} (h : mulOk i j = true) : binop .mul (.int i) (.int j) S = .ok (.int (i * j)) S := by
  show (if mulOk i j = true then R.ok (D.int (i * j)) S else .bad) = _
  rw [if_pos h]
theorem mulOk_R {i j : Int} (h : -18446744073709551616 < j ∧ j < 18446744073709551616) : mulOk i j = true := by
  unfold mulOk
  simp only [Bool.or_eq_true, Bool.and_eq_true, decide_eq_true_eq]
  exact .inl (.inr h)
theorem mulOk_L {i j : Int} (h : -18446744073709551616 < i ∧ i < 18446744073709551616) : mulOk i j = true := by
  unfold mulOk
  simp only [Bool.or_eq_true, Bool.and_eq_true, decide_eq_true_eq]
  exact .inl (.inl h)
theorem mu_intR {i j : Int} (h : -18446744073709551616 < j) (h' : j < 18446744073709551616) : binop .mul (.int i) (.int j) S = .ok (.int (i * j)) S := mu_int S (mulOk_R ⟨h, h'⟩)
theorem mu_intL {i j : Int} (h : -18446744073709551616 < i) (h' : i < 18446744073709551616) : binop .mul (.int i) (.int j) S = .ok (.int (i * j)) S := mu_int S (mulOk_L ⟨h, h'⟩)
theorem divOk_S {j : Int} (h : 0 < j) (h2 : j < 1073741824) : divOk j = true := by
  unfold divOk
  simp [h, h2]
theorem fd_intS {i j : Int} (h : 0 < j) (h2 : j < 1073741824) : binop .fdiv (.int i) (.int j) S = .ok (.int (i / j)) S := fd_int S (divOk_S h h2)
theorem po_int {i j : Int} (h : 0 ≤ j) (h2 : j ≤ 1000000) (h3 : i.natAbs < 18446744073709551616) : binop .pow (.int i) (.int j) S = .ok (.int (i ^ j.toNat)) S := by
  show (if 0 ≤ j ∧ j ≤ 1000000 ∧ i.natAbs < 2 ^ 64 then R.ok (D.int (i ^ j.toNat)) S else .bad) = _
  rw [if_pos ⟨h, h2, h3⟩]
theorem mu_tup {xs : List D} {k : Int} (h0 : xs.isEmpty = false) (h1 : 0 ≤ k) (h2 : k ≤ 1000) (h3 : xs.length ≤ 1000) : binop .mul (.tup xs) (.int k) S = .ok (.tup (List.replicate k.toNat xs).flatten) S := by
  show (if -(2 ^ 63) ≤ k ∧ k < 2 ^ 63 ∧ (xs.isEmpty || k == 1) = true then R.ok (D.tup xs) S else if xs.isEmpty = false ∧ 2 ≤ k ∧ k ≤ 1000 ∧ xs.length ≤ 1000 then .ok (.tup (List.replicate k.toNat xs).flatten) S else if xs.isEmpty = false ∧ -(2 ^ 63) ≤ k ∧ k ≤ 0 then .ok (.tup []) S else .bad) = _
  by_cases h : k = 1
  · subst h
    rw [if_pos ⟨by decide, by decide, by simp⟩]
    simp
  · rw [if_neg (by simp [h0, h])]
    by_cases hk : k = 0
    · subst hk
      rw [if_neg (by omega), if_pos ⟨h0, by decide, by decide⟩]
      rfl
    · rw [if_pos ⟨h0, by omega, h2, h3⟩]
theorem mu_lst {xs : List D} {k : Int} (h1 : 0 ≤ k) (h2 : k ≤ 10000) (h3 : xs.length ≤ 6) : binop .mul (.lst xs) (.int k) S = .ok (.lst (List.replicate k.toNat xs).flatten) S := by
  show (if -(2 ^ 63) ≤ k ∧ k < 2 ^ 63 ∧ xs.length * k.toNat ≤ PySem.sizeLine then R.ok (D.lst (List.replicate k.toNat xs).flatten) S else .bad) = _
  have h4 : xs.length * k.toNat ≤ 6 * 10000 := Nat.mul_le_mul h3 (by omega)
  have c1 : (-(2 ^ 63) : Int) ≤ 0 := by decide
  have c2 : (10000 : Int) < 2 ^ 63 := by decide
  rw [if_pos ⟨by omega, by omega, by rw [PySem.sizeLine_eq]; omega⟩]
theorem c_lt (i j : Int) : cmpR .lt (.int i) (.int j) S = .ok (.bl (decide (i < j))) S := (rfl)
theorem c_le (i j : Int) : cmpR .le (.int i) (.int j) S = .ok (.bl (decide (i ≤ j))) S := (rfl)
theorem c_gt (i j : Int) : cmpR .gt (.int i) (.int j) S = .ok (.bl (decide (j < i))) S := (rfl)
theorem c_ge (i j : Int) : cmpR .ge (.int i) (.int j) S = .ok (.bl (decide (j ≤ i))) S := (rfl)
theorem cc_le (i j : Int) : cmpop .le (.int i) (.int j) S = some (decide (i ≤ j)) := (rfl)
theorem cc_lt (i j : Int) : cmpop .lt (.int i) (.int j) S = some (decide (i < j)) := (rfl)
theorem c_isn_n : cmpR .is .non .non S = .ok (.bl true) S := (rfl)
theorem c_isn_b (b : Bool) : cmpR .is (.bl b) .non S = .ok (.bl false) S := (rfl)
theorem c_isn_i (b : Int) : cmpR .is (.int b) .non S = .ok (.bl false) S := (rfl)
theorem c_isn_s (b : PySem.Str) : cmpR .is (.str b) .non S = .ok (.bl false) S := (rfl)
theorem c_isn_t (b : List D) : cmpR .is (.tup b) .non S = .ok (.bl false) S := (rfl)
theorem c_isn_l (b : List D) : cmpR .is (.lst b) .non S = .ok (.bl false) S := (rfl)
theorem c_nisn_n : cmpR .isnot .non .non S = .ok (.bl false) S := (rfl)
theorem c_nisn_b (b : Bool) : cmpR .isnot (.bl b) .non S = .ok (.bl true) S := (rfl)
theorem c_nisn_i (b : Int) : cmpR .isnot (.int b) .non S = .ok (.bl true) S := (rfl)
theorem c_nisn_s (b : PySem.Str) : cmpR .isnot (.str b) .non S = .ok (.bl true) S := (rfl)
theorem c_nisn_t (b : List D) : cmpR .isnot (.tup b) .non S = .ok (.bl true) S := (rfl)
theorem c_nisn_l (b : List D) : cmpR .isnot (.lst b) .non S = .ok (.bl true) S := (rfl)
theorem eqD_int (i j : Int) : eqD S (.int i) (.int j) = some (decide (i = j)) := by
  show (if PySem.SeqAt.shaped (.int i) = true ∧ PySem.SeqAt.shaped (.int j) = true then some (PySem.PyData.eqv (.int i) (.int j)) else none) = _
  rw [if_pos ⟨rfl, rfl⟩]
  rfl
theorem c_eq (i j : Int) : cmpR .eq (.int i) (.int j) S = .ok (.bl (decide (i = j))) S := by
  show (match eqD S (.int i) (.int j) with | some b => R.ok (D.bl b) S | none => .bad) = _
  rw [eqD_int]
theorem c_ne (i j : Int) : cmpR .ne (.int i) (.int j) S = .ok (.bl (!decide (i = j))) S := by
  show (match (eqD S (.int i) (.int j)).map not with | some b => R.ok (D.bl b) S | none => .bad) = _
  rw [eqD_int]
  rfl
theorem n_tup (xs : List D) : bins .len [.tup xs] S = .ok (.int xs.length) S := (rfl)
theorem n_lst (xs : List D) : bins .len [.lst xs] S = .ok (.int xs.length) S := (rfl)
theorem n_int (i : Int) : bins .int [.int i] S = .ok (.int i) S := (rfl)
theorem n_abs (i : Int) : bins .abs [.int i] S = .ok (.int i.natAbs) S := by
  show R.ok (D.int (if i < 0 then -i else i)) S = _
  congr 2
  split <;> omega
theorem n_tt (xs : List D) : bins .tuple [.tup xs] S = .ok (.tup xs) S := (rfl)
theorem n_tl (xs : List D) : bins .tuple [.lst xs] S = .ok (.tup xs) S := (rfl)
theorem n_lt (xs : List D) : bins .list [.tup xs] S = .ok (.lst xs) S := (rfl)
theorem n_ll (xs : List D) : bins .list [.lst xs] S = .ok (.lst xs) S := (rfl)
theorem n_gcd (a b : Int) : bins .gcd [.int a, .int b] S = .ok (.int ((Nat.gcd a.natAbs b.natAbs : Nat) : Int)) S := (rfl)
theorem bls_map' (bs : List Bool) : bls? (bs.map D.bl) = some bs := by
  induction bs with
  | nil => rfl
  | cons b r ih => simp [bls?, ih]
theorem n_all (bs : List Bool) : bins .all [.lst (bs.map D.bl)] S = .ok (.bl (bs.all id)) S := by
  show (match listOf S (.lst (bs.map D.bl)) with | some xs => (match bls? xs with | some bs => R.ok (D.bl (bs.all id)) S | none => .bad) | none => .bad) = _
  simp only [listOf, bls_map']
theorem n_any (bs : List Bool) : bins .any [.lst (bs.map D.bl)] S = .ok (.bl (bs.any id)) S := by
  show (match listOf S (.lst (bs.map D.bl)) with | some xs => (match bls? xs with | some bs => R.ok (D.bl (bs.any id)) S | none => .bad) | none => .bad) = _
  simp only [listOf, bls_map']
/-- a list of truths, by a test of its items -/
theorem n_allm {α : Type} (g : α → Bool) (xs : List α) : bins .all [.lst (xs.map fun x => D.bl (g x))] S = .ok (.bl (xs.all g)) S := by
  have := n_all S (xs.map g)
  rw [List.map_map, List.all_map] at this
  exact this
theorem n_anym {α : Type} (g : α → Bool) (xs : List α) : bins .any [.lst (xs.map fun x => D.bl (g x))] S = .ok (.bl (xs.any g)) S := by
  have := n_any S (xs.map g)
  rw [List.map_map, List.any_map] at this
  exact this
theorem ixN_nat {n k : Nat} (h : k < n) : L2.ixN n (k : Int) = some k := by
  unfold L2.ixN
  rw [if_pos (by omega), if_pos (by omega)]
  simp
theorem atI_nat {α : Type} (xs : List α) (k : Nat) : L2.atI xs (k : Int) = xs[k]? := by
  unfold L2.atI
  by_cases h : k < xs.length
  · rw [ixN_nat h]; rfl
  · unfold L2.ixN
    rw [if_pos (by omega), if_neg (by omega)]
    simp; omega
theorem ix_t (xs : List D) (k : Nat) : index (.tup xs) (.int (k : Int)) S = (match xs[k]? with | some d => .ok d S | none => .bad) := by
  show (match L2.atI xs (k : Int) with | some d => R.ok d S | none => .bad) = _
  rw [atI_nat]
theorem ix_l (xs : List D) (k : Nat) : index (.lst xs) (.int (k : Int)) S = (match xs[k]? with | some d => .ok d S | none => .bad) := by
  show (match L2.atI xs (k : Int) with | some d => R.ok d S | none => .bad) = _
  rw [atI_nat]
theorem ix_t0 (x : D) (xs : List D) : index (.tup (x :: xs)) (.int 0) S = .ok x S := ix_t S (x :: xs) 0
theorem ix_t1 (x y : D) (xs : List D) : index (.tup (x :: y :: xs)) (.int 1) S = .ok y S := ix_t S (x :: y :: xs) 1
theorem ix_t2 (x y z : D) (xs : List D) : index (.tup (x :: y :: z :: xs)) (.int 2) S = .ok z S := ix_t S (x :: y :: z :: xs) 2
theorem ix_l0 (x : D) (xs : List D) : index (.lst (x :: xs)) (.int 0) S = .ok x S := ix_l S (x :: xs) 0
theorem ix_l1 (x y : D) (xs : List D) : index (.lst (x :: y :: xs)) (.int 1) S = .ok y S := ix_l S (x :: y :: xs) 1
theorem cut_drop {xs : List D} {k : Nat} : cutD xs (some (k : Int)) none = xs.drop k := by
  unfold cutD
  rw [HT.sIx_none, HT.sIx_nat, List.take_of_length_le (by simp)]
  by_cases h : k ≤ xs.length
  · rw [Nat.min_eq_left h]
  · rw [Nat.min_eq_right (by omega), List.drop_of_length_le (Nat.le_refl _), List.drop_of_length_le (by omega)]
theorem cut_take {xs : List D} {k : Nat} : cutD xs none (some (k : Int)) = xs.take k := by
  unfold cutD
  rw [HT.sIx_none, HT.sIx_nat, List.drop_zero, Nat.sub_zero]
  by_cases h : k ≤ xs.length
  · rw [Nat.min_eq_left h]
  · rw [Nat.min_eq_right (by omega), List.take_of_length_le (Nat.le_refl _), List.take_of_length_le (by omega)]
theorem l_tup (xs : List D) (lo hi : Option Int) : slice (.tup xs) lo hi S = .ok (.tup (cutD xs lo hi)) S := (rfl)
theorem l_lst (xs : List D) (lo hi : Option Int) : slice (.lst xs) lo hi S = .ok (.lst (cutD xs lo hi)) S := (rfl)
theorem r_tup (xs : List D) : revd (.tup xs) S = .ok (.tup xs.reverse) S := (rfl)
theorem r_lst (xs : List D) : revd (.lst xs) S = .ok (.lst xs.reverse) S := (rfl)
theorem rng_nat {k : Nat} (h : k ≤ 1000000) : rngR (.int 0) (.int (k : Int)) S = .ok (rngList 0 k, []) S := by
  have hc : -(2 ^ 62) ≤ (0 : Int) ∧ (0 : Int) < 2 ^ 62 ∧ -(2 ^ 62) ≤ (k : Int) ∧ (k : Int) < 2 ^ 62 := by
    refine ⟨by decide, by decide, ?_, ?_⟩
    · have : (-(2 ^ 62) : Int) ≤ 0 := by decide
      omega
    · have : (1000000 : Int) < 2 ^ 62 := by decide
      omega
  unfold rngR
  dsimp only
  rw [if_pos hc, Int.sub_zero, Int.toNat_natCast]
/-- isinstance -/
theorem is_ty {d : D} {u t : String} {b : Bool} (h : tyName d = some u) (h2 : L2.kitB u t = some b) (h3 : ∀ m, d ≠ .ref m) : isiD t d S = .ok (.bl b) S := by
  unfold isiD
  rw [h]
  dsimp only
  rw [h2]
  cases d <;> simp at h3 ⊢
end
end IT.Y
end
section
set_option Elab.async false
set_option linter.all false
set_option maxRecDepth 100000
set_option autoImplicit false
/-! IT: what every law needs: calls, stores, comprehensions, loops, fractions -/
namespace IT
def LD.cl (L : LD) (n : Nat) : Calls := calls L.Gam L.Lam L.G n
def GoodS (S : Sto) : Prop := S.all (Ob.under S.length) = true
theorem good_nil : GoodS [] := rfl
theorem back_same {S : Sto} (h : GoodS S) {d : D} (hd : D.under S.length d = true) : back false S.length d S = .ok d S := by
  unfold back
  rw [List.take_length, if_pos ⟨h, Nat.le_refl _⟩]
  cases d <;> simp [freeze, D.under] at hd ⊢ <;> simp [hd]
theorem end_rt {S : Sto} (h : GoodS S) {d : D} (hd : D.under S.length d = true) : endO false S.length (.rt d S) = .ok d S := back_same h hd
theorem end_nx {S : Sto} (h : GoodS S) {δ : Env} : endO false S.length (.nx δ S) = .ok .non S := back_same (d := .non) h rfl
theorem end_ex {S : Sto} (h : GoodS S) {k : Nat} : endO false S.length (.ex k .non S) = .ex k .non S := by
  show (if (S.take S.length).all (Ob.under S.length) = true ∧ S.length ≤ S.length ∧ D.under S.length .non = true then R.ex k .non (S.take S.length) else .bad) = _
  rw [List.take_length, if_pos ⟨h, Nat.le_refl _, rfl⟩]
theorem ca_x {L : LD} {n i : Nat} {f : FnI} (hf : L.Gam i = some f) (h1 : S.fits f.body = true) (h2 : S.sds f.body < AF) {ds : List D} {S : Sto} {δ : Env} (hl : ds.length = f.ps) (hd : ds.map some ++ List.replicate (f.ns - ds.length) none = δ) :
    (L.cl (n + 1)).ca i ds S = endO f.keep S.length (exs (exx (L.cl n) L.G {}) f.body δ S) := by
  show (match L.Gam i with
      | some d => if ds.length = d.ps then endO d.keep S.length (exs (ex (calls L.Gam L.Lam L.G n) L.G AF {}) d.body (ds.map some ++ List.replicate (d.ns - ds.length) none) S) else .bad
      | none => .bad) = _
  rw [hf]
  simp only [hl, if_true]
  rw [← hl, hd]
  show endO f.keep S.length (exs (ex (calls L.Gam L.Lam L.G n) L.G AF {}) f.body δ S) = _
  rw [body_x _ _ _ h1 h2]
  rfl
theorem x_nx {f : IT.S → Env → Sto → O} {s : IT.S} {r : List IT.S} {δ δ' : Env} {S S' : Sto} {o : O} (h : f s δ S = .nx δ' S') (h2 : exs f r δ' S' = o) : exs f (s :: r) δ S = o := by rw [exs_cons, h]; exact h2
theorem x_rt {f : IT.S → Env → Sto → O} {s : IT.S} {r : List IT.S} {δ : Env} {S S' : Sto} {d : D} (h : f s δ S = .rt d S') : exs f (s :: r) δ S = .rt d S' := by rw [exs_cons, h]
/-! ### what is under -/
theorem unders_app (k : Nat) : ∀ xs ys : List D, D.unders k (xs ++ ys) = (D.unders k xs && D.unders k ys)
  | [], ys => by simp [D.unders]
  | x :: xs, ys => by rw [List.cons_append, D.unders, D.unders, unders_app k xs ys, Bool.and_assoc]
theorem unders_all (k : Nat) : ∀ xs : List D, D.unders k xs = xs.all (D.under k)
  | [] => rfl
  | x :: xs => by rw [D.unders, List.all_cons, unders_all k xs]
theorem unders_map {α : Type} (k : Nat) (f : α → D) (xs : List α) (h : ∀ x ∈ xs, D.under k (f x) = true) : D.unders k (xs.map f) = true := by
  rw [unders_all, List.all_eq_true]
  intro d hd
  obtain ⟨x, hx, rfl⟩ := List.mem_map.mp hd
  exact h x hx
mutual
theorem under_mono {j k : Nat} (h : j ≤ k) : ∀ {d : D}, D.under j d = true → D.under k d = true
  | .tup xs, q => unders_mono h q
  | .lst xs, q => unders_mono h q
  | .ref m, q => by simp [D.under] at q ⊢; omega
  | .non, _ => rfl
  | .bl _, _ => rfl
  | .int _, _ => rfl
  | .str _, _ => rfl
  | .glo _, _ => rfl
  | .ty _, _ => rfl
  | .scr _, _ => rfl
theorem unders_mono {j k : Nat} (h : j ≤ k) : ∀ {d : List D}, D.unders j d = true → D.unders k d = true
  | [], _ => rfl
  | x :: xs, q => by
    rw [D.unders, Bool.and_eq_true] at q ⊢
    exact ⟨under_mono h q.1, unders_mono h q.2⟩
end
theorem ob_mono {j k : Nat} (h : j ≤ k) {o : Ob} (q : Ob.under j o = true) : Ob.under k o = true := by
  cases o with
  | lst xs => exact unders_mono h q
  | dct kvs =>
    simp only [Ob.under, List.all_eq_true, Bool.and_eq_true] at q ⊢
    exact fun p hp => ⟨under_mono h (q p hp).1, under_mono h (q p hp).2⟩
/-! ### the last object of the store -/
theorem at_end (S : Sto) (o : Ob) : (S ++ [o])[S.length]? = some o := by simp
theorem set_end (S : Sto) (o o' : Ob) : (S ++ [o]).set S.length o' = S ++ [o'] := by simp
theorem app_end (S : Sto) (xs : List D) (y : D) (h : xs.length ≤ 65536) : append (.ref S.length) y (S ++ [.lst xs]) = .ok .non (S ++ [.lst (xs ++ [y])]) := by
  simp only [append, at_end, set_end]
  rw [if_pos (by rw [PySem.sizeLine_eq]; omega)]
theorem seq_end (S : Sto) (xs : List D) : seqD (.ref S.length) (S ++ [.lst xs]) = .ok (xs, [(S.length, xs)]) (S ++ [.lst xs]) := by
  simp only [seqD, listOf, at_end]
  rfl
theorem tuple_end (S : Sto) (xs : List D) : bins .tuple [.ref S.length] (S ++ [.lst xs]) = .ok (.tup xs) (S ++ [.lst xs]) := by
  simp only [bins, listOf, at_end]
theorem stands_end (S : Sto) (xs : List D) : stands [(S.length, xs)] (S ++ [.lst xs]) = true := by
  simp only [stands, List.all_cons, List.all_nil, at_end, Bool.and_true]
  exact D.beqL_refl _
theorem good_end {S : Sto} (h : GoodS S) {xs : List D} (hx : D.unders S.length xs = true) : GoodS (S ++ [.lst xs]) := by
  unfold GoodS at h ⊢
  rw [List.all_append, List.length_append, Bool.and_eq_true]
  refine ⟨List.all_eq_true.mpr fun o ho => ob_mono (by simp) (List.all_eq_true.mp h o ho), ?_⟩
  simp only [List.all_cons, List.all_nil, Bool.and_true, List.length_cons, List.length_nil]
  exact unders_mono (by simp) hx
theorem back_end {S0 S : Sto} (hl : S0.length = S.length) (hG : GoodS S) (os : List Ob) {d : D} (hd : D.under S.length d = true) (hr : ∀ m, d ≠ .ref m) : endO false S0.length (.rt d (S ++ os)) = .ok d S := by
  show back false S0.length d (S ++ os) = _
  rw [hl]
  have ht : (S ++ os).take S.length = S := by simp
  unfold back
  rw [ht, if_pos ⟨hG, by simp⟩]
  have hf : freeze (S ++ os) S.length d = some d := by
    cases d <;> simp [freeze, hd] at hr ⊢
  cases d <;> simp [hf]
/-- the new list, handed back -/
theorem back_lst {S0 S : Sto} (hl : S0.length = S.length) (hG : GoodS S) {xs : List D} (hx : D.unders S.length xs = true) (os : List Ob) : endO false S0.length (.rt (.ref S.length) (S ++ .lst xs :: os)) = .ok (.lst xs) S := by
  show back false S0.length (.ref S.length) (S ++ .lst xs :: os) = _
  rw [hl]
  have ht : (S ++ .lst xs :: os).take S.length = S := by simp
  unfold back
  rw [ht, if_pos ⟨hG, by simp⟩]
  have hf : freeze (S ++ .lst xs :: os) S.length (.ref S.length) = some (.lst xs) := by
    simp [freeze, hx]
  simp [hf]
/-! ### comprehensions -/
theorem lcl_map {g : Sto → Bool} {f : D → Sto → R (Option D)} {h : D → D} {S : Sto} (hg : g S = true) : ∀ (xs acc : List D), (∀ x ∈ xs, f x S = .ok (some (h x)) S) → acc.length + xs.length ≤ PySem.sizeLine → lcl g f xs acc S = .ok (acc ++ xs.map h) S
  | [], acc, _, _ => by simp [lcl, hg]
  | x :: xs, acc, hf, hl => by
    rw [lcl, if_pos hg, hf x List.mem_cons_self]
    simp only
    rw [if_pos (by simp at hl; omega), lcl_map hg xs (acc ++ [h x]) (fun y hy => hf y (List.mem_cons_of_mem _ hy)) (by simp at hl ⊢; omega)]
    simp
theorem lclT {α : Type} {enc : α → D} {g : Sto → Bool} {f : D → Sto → R (Option D)} {h : α → D} {S : Sto} (hg : g S = true) : ∀ (ys : List α) (acc : List D), (∀ y ∈ ys, f (enc y) S = .ok (some (h y)) S) → acc.length + ys.length ≤ 65536 → lcl g f (ys.map enc) acc S = .ok (acc ++ ys.map h) S
  | [], acc, _, _ => by simp [lcl, hg]
  | x :: xs, acc, hf, hl => by
    rw [List.map_cons, lcl, if_pos hg, hf x List.mem_cons_self]
    simp only
    rw [if_pos (by rw [PySem.sizeLine_eq]; simp at hl; omega), lclT hg xs (acc ++ [h x]) (fun y hy => hf y (List.mem_cons_of_mem _ hy)) (by simp at hl ⊢; omega)]
    simp
theorem lclF {α : Type} {enc : α → D} {g : Sto → Bool} {f : D → Sto → R (Option D)} {h : α → D} {p : α → Bool} {S : Sto} (hg : g S = true) : ∀ (ys : List α) (acc : List D), (∀ y ∈ ys, f (enc y) S = .ok (if p y = true then some (h y) else none) S) → acc.length + ys.length ≤ 65536 → lcl g f (ys.map enc) acc S = .ok (acc ++ (ys.filter p).map h) S
  | [], acc, _, _ => by simp [lcl, hg]
  | x :: xs, acc, hf, hl => by
    rw [List.map_cons, lcl, if_pos hg, hf x List.mem_cons_self]
    cases hp : p x with
    | true =>
      simp only [if_true]
      rw [if_pos (by rw [PySem.sizeLine_eq]; simp at hl; omega), lclF hg xs (acc ++ [h x]) (fun y hy => hf y (List.mem_cons_of_mem _ hy)) (by simp at hl ⊢; omega)]
      simp [List.filter_cons, hp]
    | false =>
      simp only [Bool.false_eq_true, if_false]
      rw [lclF hg xs acc (fun y hy => hf y (List.mem_cons_of_mem _ hy)) (by simp at hl ⊢; omega)]
      simp [List.filter_cons, hp]
section
variable {c : Calls} {G : Nat → Nat → Option Bool} {elt t : E} {tg : T} {it : E} {own : List Nat} {δ : Env} {S S1 : Sto} {gs : List (Nat × List D)}
/-- of items that are told by a list: each by a function, the store as it was -/
theorem lc_map {α : Type} {enc : α → D} {ys : List α} (h : α → D) (hi : items (fun e S => evx c G {} e δ S) it S = .ok (ys.map enc, gs) S1) (hg : stands gs S1 = true) (hz : ys.length ≤ 65536)
    (hf : ∀ y ∈ ys, ∃ δ', T.put S1 tg (enc y) (wipeD δ own) = some δ' ∧ evx c G {} elt δ' S1 = .ok (h y) S1) : evx c G {} (.lc false elt tg it none own) δ S = .ok (.lst (ys.map h)) S1 := by
  rw [evx_lc, hi, Y.b_ok, lclT hg ys [] (fun y hy => ?_) (by simpa using hz), Y.b_ok]
  · rfl
  · obtain ⟨δ', h1, h2⟩ := hf y hy
    unfold turnF
    rw [h1]
    show (evx c G {} elt δ' S1).bind _ = _
    rw [h2]
    rfl
theorem lc_filter {α : Type} {enc : α → D} {ys : List α} (h : α → D) (p : α → Bool) (hi : items (fun e S => evx c G {} e δ S) it S = .ok (ys.map enc, gs) S1) (hg : stands gs S1 = true) (hz : ys.length ≤ 65536)
    (hf : ∀ y ∈ ys, ∃ δ', T.put S1 tg (enc y) (wipeD δ own) = some δ' ∧ testx (fun e S => evx c G {} e δ' S) t S1 = .ok (p y) S1 ∧ (p y = true → evx c G {} elt δ' S1 = .ok (h y) S1)) : evx c G {} (.lc false elt tg it (some t) own) δ S = .ok (.lst ((ys.filter p).map h)) S1 := by
  rw [evx_lcq, hi, Y.b_ok, lclF (h := h) (p := p) hg ys [] (fun y hy => ?_) (by simpa using hz), Y.b_ok]
  · rfl
  · obtain ⟨δ', h1, h2, h3⟩ := hf y hy
    unfold turnF
    rw [h1]
    show (testx (fun e S => evx c G {} e δ' S) t S1).bind _ = _
    rw [h2, Y.b_ok]
    cases hp : p y with
    | true =>
      rw [if_pos rfl]
      show (evx c G {} elt δ' S1).bind _ = _
      rw [h3 hp]
      rfl
    | false =>
      rw [if_neg Bool.false_ne_true]
      rfl
end
/-- the items of range(k) -/
theorem rng_map (S : Sto) {k : Nat} (h : k ≤ 1000000) : rngR (.int 0) (.int (k : Int)) S = (.ok ((List.range k).map (fun (i : Nat) => D.int (i : Int)), []) S : R (List D × List (Nat × List D))) := by
  rw [Y.rng_nat S h]
  simp [rngList]
theorem enumD_map : ∀ (xs : List D) (i : Nat), enumD i xs = (xs.zipIdx i).map fun p => D.tup [.int p.2, p.1]
  | [], _ => rfl
  | x :: xs, i => by rw [enumD, List.zipIdx_cons, List.map_cons, enumD_map xs (i + 1)]
theorem zipD_map : ∀ (xs ys : List D), zipD xs ys = (xs.zip ys).map fun p => D.tup [p.1, p.2]
  | [], _ => by simp [zipD]
  | _ :: _, [] => by simp [zipD]
  | x :: xs, y :: ys => by rw [zipD, List.zip_cons_cons, List.map_cons, zipD_map xs ys]
/-! ### loops -/
theorem forl_inv {α : Type} {enc : α → D} {g : Sto → Bool} {f : D → Env → Sto → O} (P : List α → Env → Sto → Prop) (hg : ∀ pre δ S, P pre δ S → g S = true) : ∀ (ys pre : List α) {δ : Env} {S : Sto}, P pre δ S →
    (∀ pre' y post, pre ++ ys = pre' ++ y :: post → ∀ δ S, P pre' δ S → ∃ δ' S', f (enc y) δ S = .nx δ' S' ∧ P (pre' ++ [y]) δ' S') → ∃ δ' S', forl g f (ys.map enc) δ S = .nx δ' S' ∧ P (pre ++ ys) δ' S'
  | [], pre, δ, S, h, _ => ⟨δ, S, by rw [List.map_nil, forl, if_pos (hg _ _ _ h)], by simpa using h⟩
  | y :: ys, pre, δ, S, h, hs => by
    obtain ⟨δ1, S1, e1, h1⟩ := hs pre y ys rfl δ S h
    obtain ⟨δ2, S2, e2, h2⟩ := forl_inv P hg ys (pre ++ [y]) h1 (fun pre' z post e => hs pre' z post (by rw [← e]; simp))
    refine ⟨δ2, S2, ?_, by simpa using h2⟩
    rw [List.map_cons, forl, if_pos (hg _ _ _ h), e1]
    exact e2
theorem forl_go {α : Type} {enc : α → D} {g : Sto → Bool} {f : D → Env → Sto → O} (P : List α → Env → Sto → Prop) (ys : List α) {δ : Env} {S : Sto} (h0 : P [] δ S) (hg : ∀ pre δ S, P pre δ S → g S = true)
    (hs : ∀ pre y post, ys = pre ++ y :: post → ∀ δ S, P pre δ S → ∃ δ' S', f (enc y) δ S = .nx δ' S' ∧ P (pre ++ [y]) δ' S') : ∃ δ' S', forl g f (ys.map enc) δ S = .nx δ' S' ∧ P ys δ' S' :=
  forl_inv P hg ys [] h0 hs
/-! ### the cup of draws -/
structure Cp where
  a : Int
  b : Int
  ha : 0 ≤ a
  hb : 0 ≤ b
def Cup (c : Cp) (R : Sto) : Sto := .lst [.int c.a, .int c.b] :: R
def GoodR (R : Sto) : Prop := R.all (Ob.under (R.length + 1)) = true
theorem goodR_nil : GoodR [] := rfl
theorem cup_len (c : Cp) (R : Sto) : (Cup c R).length = R.length + 1 := rfl
theorem good_cup {c : Cp} {R : Sto} (h : GoodR R) : GoodS (Cup c R) := by
  unfold GoodS Cup
  rw [List.all_cons, List.length_cons]
  have e : Ob.under (R.length + 1) (.lst [.int c.a, .int c.b]) = true := rfl
  rw [e, Bool.true_and]
  exact h
theorem cup_app (c : Cp) (R : Sto) (os : List Ob) : Cup c R ++ os = Cup c (R ++ os) := rfl
theorem goodR_app {R : Sto} (h : GoodR R) {xs : List D} (hx : D.unders (R.length + 2) xs = true) : GoodR (R ++ [Ob.lst xs]) := by
  unfold GoodR at h ⊢
  rw [List.all_append, List.length_append, Bool.and_eq_true]
  refine ⟨List.all_eq_true.mpr fun o ho => ob_mono (by simp) (List.all_eq_true.mp h o ho), ?_⟩
  simp only [List.all_cons, List.all_nil, Bool.and_true, List.length_cons, List.length_nil]
  exact hx
theorem lcl_cup {R : Sto} {Q : D → Prop} {f : D → Sto → IT.R (Option D)} : ∀ (xs acc : List D) (c : Cp), (∀ x ∈ xs, ∀ c, ∃ d c', f x (Cup c R) = .ok (some d) (Cup c' R) ∧ Q d) → acc.length + xs.length ≤ 60000 →
    ∃ ds c', lcl (stands []) f xs acc (Cup c R) = .ok (acc ++ ds) (Cup c' R) ∧ ds.length = xs.length ∧ ∀ d ∈ ds, Q d
  | [], acc, c, _, _ => ⟨[], c, by simp [lcl, Y.st_nil], rfl, fun d hd => by cases hd⟩
  | x :: xs, acc, c, hf, hl => by
    obtain ⟨d, c1, h1, h2⟩ := hf x List.mem_cons_self c
    obtain ⟨ds, c2, e1, e2, e3⟩ := lcl_cup xs (acc ++ [d]) c1 (fun y hy => hf y (List.mem_cons_of_mem _ hy)) (by simp at hl ⊢; omega)
    refine ⟨d :: ds, c2, ?_, by simp [e2], fun y hy => ?_⟩
    · rw [lcl, if_pos (Y.st_nil _), h1]
      simp only
      rw [if_pos (by rw [PySem.sizeLine_eq]; simp at hl; omega), e1]
      simp
    · rcases List.mem_cons.mp hy with h | h
      · rw [h]; exact h2
      · exact e3 y h
/-- a comprehension that draws -/
theorem lc_cup {c : Calls} {G : Nat → Nat → Option Bool} {m : Bool} {elt : E} {tg : T} {it : E} {own : List Nat} {δ : Env} {R S : Sto} {xs : List D} {k : Cp} {Q : D → Prop} (hi : items (fun e S => evx c G {} e δ S) it S = .ok (xs, []) (Cup k R)) (hl : xs.length ≤ 60000)
    (hf : ∀ x ∈ xs, ∀ k, ∃ δ' d k', (∀ S, T.put S tg x (wipeD δ own) = some δ') ∧ evx c G {} elt δ' (Cup k R) = .ok d (Cup k' R) ∧ Q d) : ∃ ds k', evx c G {} (.lc m elt tg it none own) δ S = lcF m ds (Cup k' R) ∧ ds.length = xs.length ∧ ∀ d ∈ ds, Q d := by
  obtain ⟨ds, k', e1, e2, e3⟩ := lcl_cup (R := R) (Q := Q) (f := turnF tg none (fun δ S => evx c G {} elt δ S) own δ) xs [] k (fun x hx k => by
    obtain ⟨δ', d, k', h1, h2, h3⟩ := hf x hx k
    refine ⟨d, k', ?_, h3⟩
    unfold turnF
    rw [h1]
    show (evx c G {} elt δ' (Cup k R)).bind _ = _
    rw [h2]
    rfl) (by simpa using hl)
  refine ⟨ds, k', ?_, e2, e3⟩
  rw [evx_lc, hi, Y.b_ok, e1, Y.b_ok, List.nil_append]
theorem map_enc {α : Type} {enc : α → D} {P : α → Prop} : ∀ {ds : List D}, (∀ d ∈ ds, ∃ p, d = enc p ∧ P p) → ∃ ps : List α, ds = ps.map enc ∧ ∀ p ∈ ps, P p
  | [], _ => ⟨[], rfl, fun p hp => by cases hp⟩
  | d :: ds, h => by
    obtain ⟨p, rfl, hp⟩ := h d List.mem_cons_self
    obtain ⟨ps, rfl, hps⟩ := map_enc fun d hd => h d (List.mem_cons_of_mem _ hd)
    exact ⟨p :: ps, rfl, fun q hq => (List.mem_cons.mp hq).elim (fun e => e ▸ hp) (hps q)⟩
/-! ### fractions -/
def fr (q : Rat) : D := .tup [.int q.num, .int q.den]
theorem fr_under (k : Nat) (q : Rat) : D.under k (fr q) = true := rfl
theorem frs_under (k : Nat) (ps : List Rat) : D.unders k (ps.map fr) = true := unders_map k fr ps fun _ _ => rfl
/-- small enough for all that is done here -/
def Sm (q : Rat) : Prop := q.num.natAbs < 2 ^ 2000 ∧ q.den < 2 ^ 2000
theorem fr_ix0 (q : Rat) (S : Sto) : index (fr q) (.int 0) S = .ok (.int q.num) S := Y.ix_t0 S _ _
theorem fr_ix1 (q : Rat) (S : Sto) : index (fr q) (.int 1) S = .ok (.int q.den) S := Y.ix_t1 S _ _ _
theorem fr_of (t : Int) (b : Nat) (hb : b ≠ 0) (hc : t.natAbs.Coprime b) : D.tup [.int t, .int b] = fr (Rat.mk' t b hb hc) := rfl
/-- Euclid's end: in lowest terms, the bottom above 0 -/
theorem divInt_pos {t b : Int} (hb : 0 < b) : (Rat.divInt t b).num = t / (Nat.gcd t.natAbs b.natAbs : Nat) ∧ ((Rat.divInt t b).den : Int) = b / (Nat.gcd t.natAbs b.natAbs : Nat) := by
  rw [Rat.num_divInt, Rat.den_divInt, Int.sign_eq_one_of_pos hb, Int.one_mul, if_neg (by omega)]
  have e : b.gcd t = Nat.gcd t.natAbs b.natAbs := by rw [Int.gcd, Nat.gcd_comm]
  rw [e]
  refine ⟨rfl, ?_⟩
  rw [Int.natCast_ediv]
  congr 1
  omega
theorem divInt_neg {t b : Int} : Rat.divInt (-t) (-b) = Rat.divInt t b := by
  rw [Rat.divInt_eq_div, Rat.divInt_eq_div, Rat.intCast_neg, Rat.intCast_neg]
  grind
/-! ### isinstance, by values -/
theorem is_int_int (S : Sto) (i : Int) : isiD "int" (.int i) S = .ok (.bl true) S := (rfl)
theorem is_int_bool (S : Sto) (i : Int) : isiD "bool" (.int i) S = .ok (.bl false) S := (rfl)
theorem is_int_tuple (S : Sto) (i : Int) : isiD "tuple" (.int i) S = .ok (.bl false) S := (rfl)
theorem is_int_list (S : Sto) (i : Int) : isiD "list" (.int i) S = .ok (.bl false) S := (rfl)
theorem is_int_str (S : Sto) (i : Int) : isiD "str" (.int i) S = .ok (.bl false) S := (rfl)
theorem is_bl_int (S : Sto) (b : Bool) : isiD "int" (.bl b) S = .ok (.bl true) S := (rfl)
theorem is_bl_bool (S : Sto) (b : Bool) : isiD "bool" (.bl b) S = .ok (.bl true) S := (rfl)
theorem is_bl_tuple (S : Sto) (b : Bool) : isiD "tuple" (.bl b) S = .ok (.bl false) S := (rfl)
theorem is_bl_list (S : Sto) (b : Bool) : isiD "list" (.bl b) S = .ok (.bl false) S := (rfl)
theorem is_bl_str (S : Sto) (b : Bool) : isiD "str" (.bl b) S = .ok (.bl false) S := (rfl)
theorem is_str_int (S : Sto) (x : PySem.Str) : isiD "int" (.str x) S = .ok (.bl false) S := (rfl)
theorem is_str_bool (S : Sto) (x : PySem.Str) : isiD "bool" (.str x) S = .ok (.bl false) S := (rfl)
theorem is_str_tuple (S : Sto) (x : PySem.Str) : isiD "tuple" (.str x) S = .ok (.bl false) S := (rfl)
theorem is_str_list (S : Sto) (x : PySem.Str) : isiD "list" (.str x) S = .ok (.bl false) S := (rfl)
theorem is_str_str (S : Sto) (x : PySem.Str) : isiD "str" (.str x) S = .ok (.bl true) S := (rfl)
theorem is_tup_int (S : Sto) (xs : List D) : isiD "int" (.tup xs) S = .ok (.bl false) S := (rfl)
theorem is_tup_bool (S : Sto) (xs : List D) : isiD "bool" (.tup xs) S = .ok (.bl false) S := (rfl)
theorem is_tup_tuple (S : Sto) (xs : List D) : isiD "tuple" (.tup xs) S = .ok (.bl true) S := (rfl)
theorem is_tup_list (S : Sto) (xs : List D) : isiD "list" (.tup xs) S = .ok (.bl false) S := (rfl)
theorem is_tup_str (S : Sto) (xs : List D) : isiD "str" (.tup xs) S = .ok (.bl false) S := (rfl)
theorem is_lst_int (S : Sto) (xs : List D) : isiD "int" (.lst xs) S = .ok (.bl false) S := (rfl)
theorem is_lst_bool (S : Sto) (xs : List D) : isiD "bool" (.lst xs) S = .ok (.bl false) S := (rfl)
theorem is_lst_tuple (S : Sto) (xs : List D) : isiD "tuple" (.lst xs) S = .ok (.bl false) S := (rfl)
theorem is_lst_list (S : Sto) (xs : List D) : isiD "list" (.lst xs) S = .ok (.bl true) S := (rfl)
theorem is_lst_str (S : Sto) (xs : List D) : isiD "str" (.lst xs) S = .ok (.bl false) S := (rfl)
theorem is_non_int (S : Sto)  : isiD "int" (.non) S = .ok (.bl false) S := (rfl)
theorem is_non_bool (S : Sto)  : isiD "bool" (.non) S = .ok (.bl false) S := (rfl)
theorem is_non_tuple (S : Sto)  : isiD "tuple" (.non) S = .ok (.bl false) S := (rfl)
theorem is_non_list (S : Sto)  : isiD "list" (.non) S = .ok (.bl false) S := (rfl)
theorem is_non_str (S : Sto)  : isiD "str" (.non) S = .ok (.bl false) S := (rfl)
theorem q_et (xs : List D) (S : Sto) : enumR (.tup xs) S = .ok (enumD 0 xs, []) S := (rfl)
theorem seqM {α : Type} (enc : α → D) (xs : List α) (S : Sto) : seqD (.tup (xs.map enc)) S = .ok (xs.map enc, []) S := (rfl)
theorem dv_ok {g : Nat} (h : 0 < g) (h2 : g < 2 ^ 8000) : divOk (g : Int) = true := by
  unfold divOk
  simp only [Bool.and_eq_true, Bool.or_eq_true, decide_eq_true_eq]
  refine ⟨by omega, .inr ?_⟩
  have h0 : (g : Int).natAbs ≠ 0 := by simp; omega
  have := (Nat.log2_lt h0).mpr (show (g : Int).natAbs < 2 ^ 8000 by simpa using h2)
  omega
theorem log2_le {a k : Nat} (h : a < 2 ^ k) : a.log2 ≤ k := by
  by_cases h0 : a = 0
  · subst h0; simp
  · exact Nat.le_of_lt ((Nat.log2_lt h0).mpr h)
theorem mu_big {i j : Int} (hi : i.natAbs < 2 ^ 4000) (hj : j.natAbs < 2 ^ 4000) : mulOk i j = true := by
  unfold mulOk
  simp only [Bool.or_eq_true, Bool.and_eq_true, decide_eq_true_eq]
  have a := log2_le hi
  have b := log2_le hj
  exact .inr (by omega)
theorem pow_2 : (2 : Nat) ^ 2000 < 2 ^ 4000 := Nat.pow_lt_pow_right (by decide) (by decide)
theorem Sm.n {q : Rat} (h : Sm q) : q.num.natAbs < 2 ^ 4000 := Nat.lt_trans h.1 pow_2
theorem Sm.d {q : Rat} (h : Sm q) : (q.den : Int).natAbs < 2 ^ 4000 := by
  rw [Int.natAbs_natCast]
  exact Nat.lt_trans h.2 pow_2
theorem den_mul {p q : Rat} (hp : Sm p) (hq : Sm q) : ((p.den : Int) * q.den).natAbs < 2 ^ 8000 := by
  rw [Int.natAbs_mul, Int.natAbs_natCast, Int.natAbs_natCast]
  have h1 : p.den * q.den < 2 ^ 2000 * 2 ^ 2000 := Nat.mul_lt_mul'' hp.2 hq.2
  rw [← Nat.pow_add] at h1
  exact Nat.lt_trans h1 (Nat.pow_lt_pow_right (by decide) (by decide))
theorem den_pos (q : Rat) : 0 < (q.den : Int) := by have := q.den_nz; omega
theorem add_eq (p q : Rat) : Rat.divInt (p.num * q.den + q.num * p.den) (p.den * q.den) = p + q := by
  have h1 := den_pos p
  have h2 := den_pos q
  rw [← Rat.divInt_add_divInt _ _ (by omega) (by omega), Rat.num_divInt_den, Rat.num_divInt_den]
theorem mul_eq (p q : Rat) : Rat.divInt (p.num * q.num) (p.den * q.den) = p * q := by
  rw [← Rat.divInt_mul_divInt, Rat.num_divInt_den, Rat.num_divInt_den]
theorem sub_eq (p q : Rat) : Rat.divInt (p.num * q.den - q.num * p.den) (p.den * q.den) = p - q := by
  have h1 := den_pos p
  have h2 := den_pos q
  have e : p.num * q.den - q.num * p.den = p.num * q.den + (-q).num * p.den := by rw [Rat.neg_num]; grind
  have e2 : (q.den : Int) = ((-q).den : Int) := by rw [Rat.neg_den]
  rw [e, e2, add_eq]
  grind
theorem fr_num (q : Rat) : (q.num = 0) = (q = 0) := by
  rw [Rat.num_eq_zero]
/-- what is small: by a common bottom and a bound -/
def Ft (N B : Nat) (q : Rat) : Prop := q.den ∣ N ∧ q.num.natAbs ≤ B * q.den
/-! ### plain values, alike with themselves -/
mutual
def D.pv : D → Bool
  | .non => true
  | .bl _ => true
  | .int _ => true
  | .str x => PySem.SeqAt.shaped (.str x)
  | .tup xs => decide (xs.length ≤ 60000) && D.pvs xs
  | .lst xs => decide (xs.length ≤ 60000) && D.pvs xs
  | _ => false
def D.pvs : List D → Bool
  | [] => true
  | x :: r => D.pv x && D.pvs r
end
mutual
def D.dp : D → Nat
  | .tup xs => D.dps xs + 1
  | .lst xs => D.dps xs + 1
  | _ => 0
def D.dps : List D → Nat
  | [] => 0
  | x :: r => max (D.dp x) (D.dps r)
end
theorem dps_mem : ∀ {xs : List D} {x : D}, x ∈ xs → D.dp x ≤ D.dps xs
  | a :: r, x, h => by
    rw [D.dps]
    rcases List.mem_cons.mp h with rfl | h
    · exact Nat.le_max_left _ _
    · exact Nat.le_trans (dps_mem h) (Nat.le_max_right _ _)
theorem pvs_mem : ∀ {xs : List D} {x : D}, D.pvs xs = true → x ∈ xs → D.pv x = true
  | a :: r, x, h, hx => by
    rw [D.pvs, Bool.and_eq_true] at h
    rcases List.mem_cons.mp hx with rfl | hx
    · exact h.1
    · exact pvs_mem h.2 hx
theorem pvs_of : ∀ {xs : List D}, (∀ x ∈ xs, D.pv x = true) → D.pvs xs = true
  | [], _ => rfl
  | a :: r, h => by
    rw [D.pvs, h a List.mem_cons_self, pvs_of fun x hx => h x (List.mem_cons_of_mem _ hx)]
    rfl
theorem dps_of {k : Nat} : ∀ {xs : List D}, (∀ x ∈ xs, D.dp x ≤ k) → D.dps xs ≤ k
  | [], _ => Nat.zero_le _
  | a :: r, h => by
    rw [D.dps]
    exact Nat.max_le.mpr ⟨h a List.mem_cons_self, dps_of fun x hx => h x (List.mem_cons_of_mem _ hx)⟩
theorem zip_same : ∀ xs : List D, zipD xs xs = xs.map fun x => .tup [x, x]
  | [] => rfl
  | x :: xs => by rw [zipD, zip_same xs]; rfl
theorem ceq_non (S : Sto) : cmpR .eq .non .non S = .ok (.bl true) S := rfl
theorem ceq_bl (S : Sto) (b : Bool) : cmpR .eq (.bl b) (.bl b) S = .ok (.bl true) S := by cases b <;> rfl
theorem ceq_int (S : Sto) (i : Int) : cmpR .eq (.int i) (.int i) S = .ok (.bl true) S := by rw [Y.c_eq]; simp
theorem ceq_str (S : Sto) (x : PySem.Str) (h : PySem.SeqAt.shaped (.str x) = true) : cmpR .eq (.str x) (.str x) S = .ok (.bl true) S := by
  have e : eqD S (.str x) (.str x) = some true := by
    show (if PySem.SeqAt.shaped (.str x) = true ∧ PySem.SeqAt.shaped (.str x) = true then some (PySem.PyData.eqv (.str x) (.str x)) else none) = _
    rw [if_pos ⟨h, h⟩]
    congr 1
    rw [PySem.PyData.eqv]
    exact beq_self_eq_true x
  show (match eqD S (.str x) (.str x) with | some b => R.ok (D.bl b) S | none => .bad) = _
  rw [e]
theorem fr_pv (q : Rat) : (fr q).pv = true := rfl
theorem fr_dp (q : Rat) : (fr q).dp = 1 := rfl
/-- a while, its parts unopened -/
def whlX (c : Calls) (G : Nat → Nat → Option Bool) (t : E) (b : List S) (w : Nat) (δ : Env) (S : Sto) : O := whl (fun δ S => testx (fun e S => evx c G {} e δ S) t S) (exs (exx c G {}) b) w δ S
theorem exx_whlX (c : Calls) (G : Nat → Nat → Option Bool) (t : E) (b : List S) (δ : Env) (S : Sto) : exx c G {} (.whl t b) δ S = whlX c G t b WF δ S := exx_whl c G δ S t b
end IT
end
section
set_option Elab.async false
set_option linter.all false
set_option maxRecDepth 100000
set_option autoImplicit false
set_option exponentiation.threshold 9000
/-! numbers of words in broken lines: plain law -/
namespace IT
/-! ### what is small: a multiple of 1/N, at most B -/
def Fs (N B : Nat) (q : Rat) : Prop := 0 < N ∧ ∃ z : Int, q = (z : Rat) / (N : Rat) ∧ z.natAbs ≤ B * N
theorem cast_ne {N : Nat} (h : 0 < N) : (N : Rat) ≠ 0 := by
  have : (N : Rat) ≠ ((0 : Nat) : Rat) := fun z => by
    have := Rat.natCast_inj.mp z
    omega
  simpa using this
theorem Fs.sm {N B : Nat} {q : Rat} (h : Fs N B q) (hN : N < 2 ^ 2000) (hb : B * N < 2 ^ 2000) : Sm q := by
  obtain ⟨h0, z, e, hz⟩ := h
  have e2 : q = Rat.divInt z (N : Int) := by
    rw [Rat.divInt_eq_div, e, Rat.intCast_natCast]
  obtain ⟨d1, d2⟩ := divInt_pos (t := z) (b := (N : Int)) (by omega)
  rw [← e2] at d1 d2
  have g0 : 0 < Nat.gcd z.natAbs (N : Int).natAbs := Nat.gcd_pos_of_pos_right _ (by omega)
  refine ⟨?_, ?_⟩
  · rw [d1]
    refine Nat.lt_of_le_of_lt (Int.natAbs_ediv_le_natAbs _ _) (Nat.lt_of_le_of_lt hz hb)
  · have : (q.den : Int) ≤ N := by
      rw [d2]
      exact Int.ediv_le_self _ (by omega)
    omega
theorem Fs.mono {N B B' : Nat} {q : Rat} (h : Fs N B q) (hb : B ≤ B') : Fs N B' q := by
  obtain ⟨h0, z, e, hz⟩ := h
  exact ⟨h0, z, e, Nat.le_trans hz (Nat.mul_le_mul_right _ hb)⟩
theorem Fs.up {N B k : Nat} {q : Rat} (h : Fs N B q) (hk : 0 < k) : Fs (N * k) B q := by
  obtain ⟨h0, z, e, hz⟩ := h
  refine ⟨Nat.mul_pos h0 hk, z * k, ?_, ?_⟩
  · have h1 := cast_ne h0
    have h2 := cast_ne hk
    rw [e, Rat.natCast_mul, Rat.intCast_mul, Rat.intCast_natCast]
    grind
  · rw [Int.natAbs_mul, Int.natAbs_natCast, ← Nat.mul_assoc]
    exact Nat.mul_le_mul_right _ hz
theorem Fs.add {N B C : Nat} {p q : Rat} (h : Fs N B p) (h' : Fs N C q) : Fs N (B + C) (p + q) := by
  obtain ⟨h0, z, e, hz⟩ := h
  obtain ⟨_, y, e', hy⟩ := h'
  refine ⟨h0, z + y, ?_, ?_⟩
  · rw [e, e', Rat.intCast_add]
    grind
  · rw [Nat.add_mul]
    exact Nat.le_trans (Int.natAbs_add_le _ _) (Nat.add_le_add hz hy)
theorem Fs.mul {N M B C : Nat} {p q : Rat} (h : Fs N B p) (h' : Fs M C q) : Fs (N * M) (B * C) (p * q) := by
  obtain ⟨h0, z, e, hz⟩ := h
  obtain ⟨h1, y, e', hy⟩ := h'
  refine ⟨Nat.mul_pos h0 h1, z * y, ?_, ?_⟩
  · have a := cast_ne h0
    have b := cast_ne h1
    rw [e, e', Rat.natCast_mul, Rat.intCast_mul]
    grind
  · rw [Int.natAbs_mul]
    have := Nat.mul_le_mul hz hy
    have e3 : B * N * (C * M) = B * C * (N * M) := by
      rw [Nat.mul_assoc, Nat.mul_assoc]
      congr 1
      rw [← Nat.mul_assoc, ← Nat.mul_assoc, Nat.mul_comm N C]
    rw [e3] at this
    exact this
theorem Fs.neg {N B : Nat} {q : Rat} (h : Fs N B q) : Fs N B (-q) := by
  obtain ⟨h0, z, e, hz⟩ := h
  refine ⟨h0, -z, ?_, by rw [Int.natAbs_neg]; exact hz⟩
  rw [e, Rat.intCast_neg]
  grind
theorem Fs.zero {N B : Nat} (h : 0 < N) : Fs N B 0 := ⟨h, 0, by have := cast_ne h; simp; grind, by simp⟩
theorem Fs.int {B : Nat} {z : Int} (h : z.natAbs ≤ B) : Fs 1 B (z : Rat) := ⟨by decide, z, by simp; grind, by simpa using h⟩
theorem Fs.one : Fs 1 1 1 := Fs.int (z := 1) (by decide)
/-- a coordinate by a small number -/
theorem Fs.div {D C i : Nat} {q : Rat} (h : Fs D C q) (hi : i < 8) : Fs (D * 840) C (q / ((i : Rat) + 1)) := by
  obtain ⟨h0, z, e, hz⟩ := h
  have hk : ∃ k : Nat, k * (i + 1) = 840 ∧ 0 < k ∧ k ≤ 840 := by
    match i, hi with
    | 0, _ => exact ⟨840, rfl, by decide, by decide⟩
    | 1, _ => exact ⟨420, rfl, by decide, by decide⟩
    | 2, _ => exact ⟨280, rfl, by decide, by decide⟩
    | 3, _ => exact ⟨210, rfl, by decide, by decide⟩
    | 4, _ => exact ⟨168, rfl, by decide, by decide⟩
    | 5, _ => exact ⟨140, rfl, by decide, by decide⟩
    | 6, _ => exact ⟨120, rfl, by decide, by decide⟩
    | 7, _ => exact ⟨105, rfl, by decide, by decide⟩
  obtain ⟨k, hk, hk0, hk1⟩ := hk
  refine ⟨Nat.mul_pos h0 (by decide), z * k, ?_, ?_⟩
  · have h1 := cast_ne h0
    have h2 : ((i : Rat) + 1) ≠ 0 := by
      have := cast_ne (Nat.succ_pos i)
      rw [Nat.succ_eq_add_one, Rat.natCast_add] at this
      simpa using this
    have h3 : (k : Rat) * ((i : Rat) + 1) = 840 := by
      have := congrArg (fun n : Nat => (n : Rat)) hk
      simp only [Rat.natCast_mul, Rat.natCast_add] at this
      simpa using this
    rw [e, Rat.natCast_mul, Rat.intCast_mul, Rat.intCast_natCast]
    have h4 : ((840 : Nat) : Rat) = 840 := rfl
    rw [h4, ← h3]
    have h5 := cast_ne hk0
    grind
  · rw [Int.natAbs_mul, Int.natAbs_natCast, ← Nat.mul_assoc]
    exact Nat.mul_le_mul hz hk1
/-! ### worths of pieces -/
def coord (s : List Rat) (a : Nat) : Rat := s.getD a 0
def worthFrom (s : List Rat) : Nat → Rat → List Nat → Rat
  | _, acc, [] => acc
  | i, acc, a :: r => worthFrom s (i + 1) (acc * (coord s a / ((i : Rat) + 1))) r
def worthQ (s : List Rat) (p : List Nat) : Rat := worthFrom s 0 1 p
theorem worthFrom_mul (s : List Rat) : ∀ (p : List Nat) (i : Nat) (x y : Rat), worthFrom s i (x * y) p = x * worthFrom s i y p
  | [], _, _, _ => rfl
  | a :: r, i, x, y => by
    rw [worthFrom, worthFrom, ← worthFrom_mul s r (i + 1) x]
    congr 1
    grind
theorem worthFrom_app (s : List Rat) : ∀ (p : List Nat) (i : Nat) (x : Rat) (a : Nat), worthFrom s i x (p ++ [a]) = worthFrom s i x p * (coord s a / (((i + p.length : Nat) : Rat) + 1))
  | [], i, x, a => by simp [worthFrom]
  | b :: r, i, x, a => by
    rw [List.cons_append, worthFrom, worthFrom, worthFrom_app s r (i + 1)]
    congr 4
    simp; omega
theorem worth_app (s : List Rat) (p : List Nat) (a : Nat) : worthQ s (p ++ [a]) = worthQ s p * (coord s a / ((p.length : Rat) + 1)) := by
  unfold worthQ
  rw [worthFrom_app]
  simp
theorem worth_nil (s : List Rat) : worthQ s [] = 1 := rfl
theorem worth_one (s : List Rat) (a : Nat) : worthQ s [a] = coord s a := by
  have := worth_app s [] a
  simp only [List.nil_append, worth_nil, List.length_nil] at this
  rw [this]
  simp
  grind
theorem worth_two (s : List Rat) (a b : Nat) : worthQ s [a, b] = coord s a * coord s b / 2 := by
  have := worth_app s [a] b
  simp only [List.cons_append, List.nil_append, List.length_cons, List.length_nil, worth_one] at this
  rw [this]
  simp
  grind
theorem snoc_ind {α : Type} {P : List α → Prop} (h0 : P []) (h1 : ∀ p a, P p → P (p ++ [a])) (l : List α) : P l := by
  have : ∀ r : List α, P r.reverse := fun r => by
    induction r with
    | nil => exact h0
    | cons a r ih => rw [List.reverse_cons]; exact h1 _ _ ih
  have q := this l.reverse
  rwa [List.reverse_reverse] at q
theorem worth_fs {s : List Rat} {D C : Nat} : ∀ (p : List Nat), p.length ≤ 8 → (∀ a ∈ p, Fs D C (coord s a)) → Fs ((D * 840) ^ p.length) (C ^ p.length) (worthQ s p) := by
  refine snoc_ind (fun _ _ => Fs.one) fun p a ih => ?_
  · intro hl h
    rw [worth_app, List.length_append, List.length_singleton, Nat.pow_succ, Nat.pow_succ]
    refine (ih (by simp at hl; omega) fun x hx => h x (by simp [hx])).mul ?_
    exact (h a (by simp)).div (by simp at hl; omega)
/-! ### sums -/
def sumR (f : Nat → Rat) : Nat → Rat
  | 0 => 0
  | k + 1 => sumR f k + f k
theorem sumR_fs {f : Nat → Rat} {N B : Nat} (hN : 0 < N) : ∀ k, (∀ b, b < k → Fs N B (f b)) → Fs N (k * B) (sumR f k)
  | 0, _ => Fs.zero hN
  | k + 1, h => by
    rw [sumR, Nat.succ_mul]
    exact (sumR_fs hN k fun b hb => h b (by omega)).add (h k (by omega))
theorem sumR_congr {f g : Nat → Rat} : ∀ k, (∀ b, b < k → f b = g b) → sumR f k = sumR g k
  | 0, _ => rfl
  | k + 1, h => by rw [sumR, sumR, sumR_congr k fun b hb => h b (by omega), h k (by omega)]
/-- the piece of a word from b to e -/
def mid (p : List Nat) (b e : Nat) : List Nat := (p.take e).drop b
def stepH (p : List Nat) (s : List Rat) (h : Nat → Rat) (e : Nat) : Rat := sumR (fun b => h b * worthQ s (mid p b e)) (e + 1)
def startH (e : Nat) : Rat := if e = 0 then 1 else 0
def numH (p : List Nat) (ss : List (List Rat)) : Nat → Rat := ss.foldl (fun h s => stepH p s h) startH
/-- what a line has of a word -/
def numQ (ss : List (List Rat)) (p : List Nat) : Rat := numH p ss p.length
theorem numH_app (p : List Nat) (ss : List (List Rat)) (s : List Rat) : numH p (ss ++ [s]) = stepH p s (numH p ss) := by
  unfold numH
  rw [List.foldl_append]
  rfl
/-- all that is added up behind a step is small -/
structure OkH (p : List Nat) (s : List Rat) (h : Nat → Rat) : Prop where
  hb : ∀ b, b ≤ p.length → Sm (h b)
  w : ∀ b e, e ≤ p.length → Sm (worthQ s (mid p b e))
  t : ∀ b e, b ≤ e → e ≤ p.length → Sm (h b * worthQ s (mid p b e))
  s : ∀ e j, e ≤ p.length → j ≤ e + 1 → Sm (sumR (fun b => h b * worthQ s (mid p b e)) j)
theorem mid_len (p : List Nat) {b e : Nat} (hb : b ≤ e) (he : e ≤ p.length) : (mid p b e).length = e - b := by
  unfold mid
  rw [List.length_drop, List.length_take, Nat.min_eq_left he]
theorem mid_mem {p : List Nat} {b e a : Nat} (h : a ∈ mid p b e) : a ∈ p := List.mem_of_mem_take (List.mem_of_mem_drop h)
theorem pow_le_pow {C i j : Nat} (hC : 1 ≤ C) (h : i ≤ j) : C ^ i ≤ C ^ j := Nat.pow_le_pow_right hC h
theorem term_fs {p : List Nat} {s : List Rat} {h : Nat → Rat} {D B C : Nat} (hC : 1 ≤ C) (hl : p.length ≤ 8) (hh : ∀ b, b ≤ p.length → Fs ((D * 840) ^ b) B (h b)) (hs : ∀ a ∈ p, Fs D C (coord s a)) {b e : Nat} (hb : b ≤ e) (he : e ≤ p.length) :
    Fs ((D * 840) ^ e) (B * C ^ p.length) (h b * worthQ s (mid p b e)) := by
  have h1 := (hh b (by omega)).mul (worth_fs (mid p b e) (by rw [mid_len p hb he]; omega) fun a ha => hs a (mid_mem ha))
  rw [mid_len p hb he, ← Nat.pow_add, show b + (e - b) = e by omega] at h1
  exact h1.mono (Nat.mul_le_mul_left _ (pow_le_pow hC (by omega)))
theorem step_fs {p : List Nat} {s : List Rat} {h : Nat → Rat} {D B C : Nat} (hD : 1 ≤ D) (hC : 1 ≤ C) (hl : p.length ≤ 8) (hh : ∀ b, b ≤ p.length → Fs ((D * 840) ^ b) B (h b)) (hs : ∀ a ∈ p, Fs D C (coord s a)) :
    ∀ b, b ≤ p.length → Fs ((D * 840) ^ b) (9 * (B * C ^ p.length)) (stepH p s h b) := fun e he => by
  unfold stepH
  refine (sumR_fs (Nat.pos_of_ne_zero fun z => ?_) (e + 1) fun b hb => term_fs hC hl hh hs (by omega) he).mono (Nat.mul_le_mul_right _ (by omega))
  have := Nat.pow_pos (n := e) (show 0 < D * 840 by omega)
  omega
theorem okH_of {p : List Nat} {s : List Rat} {h : Nat → Rat} {D B C : Nat} (hD : 1 ≤ D) (hC : 1 ≤ C) (hB : 1 ≤ B) (hl : p.length ≤ 8) (hh : ∀ b, b ≤ p.length → Fs ((D * 840) ^ b) B (h b)) (hs : ∀ a ∈ p, Fs D C (coord s a))
    (hz : 9 * (B * C ^ p.length) * (D * 840) ^ p.length < 2 ^ 2000) : OkH p s h := by
  have hM : 1 ≤ D * 840 := by omega
  have hCp : 1 ≤ C ^ p.length := Nat.pow_pos hC
  have key : ∀ {e X : Nat} {q : Rat}, e ≤ p.length → Fs ((D * 840) ^ e) X q → X ≤ 9 * (B * C ^ p.length) → Sm q := fun {e X q} he hq hX => by
    have h1 : (D * 840) ^ e ≤ (D * 840) ^ p.length := pow_le_pow hM he
    have h2 : X * (D * 840) ^ e ≤ 9 * (B * C ^ p.length) * (D * 840) ^ p.length := Nat.mul_le_mul hX h1
    have h3 : 1 * (D * 840) ^ p.length ≤ 9 * (B * C ^ p.length) * (D * 840) ^ p.length := Nat.mul_le_mul_right _ (by have := Nat.mul_le_mul hB hCp; omega)
    exact hq.sm (by omega) (by omega)
  have hBC : B ≤ B * C ^ p.length := Nat.le_mul_of_pos_right _ hCp
  have hBC2 : C ^ p.length ≤ B * C ^ p.length := Nat.le_mul_of_pos_left _ hB
  refine ⟨fun b hb => key hb (hh b hb) (by omega), fun b e he => ?_, fun b e hb he => key he (term_fs hC hl hh hs hb he) (by omega), fun e j he hj => ?_⟩
  · have hlen : (mid p b e).length ≤ p.length := by unfold mid; simp; omega
    have h1 := worth_fs (mid p b e) (by omega) fun a ha => hs a (mid_mem ha)
    refine key hlen h1 ?_
    have := pow_le_pow hC hlen
    omega
  · refine key he (sumR_fs (Nat.pow_pos (show 0 < D * 840 by omega)) j fun b hb => term_fs hC hl hh hs (by omega) he) (Nat.mul_le_mul_right _ (by omega))
/-! ### as the evaluator has them -/
def encN (a : Nat) : D := .int a
/-- a step's numbers are small -/
def Sml (D C : Nat) : Prop := 1 ≤ D ∧ 1 ≤ C ∧ C * D < 2 ^ 100
def StepOk (D C : Nat) (p : List Nat) (s : List Rat) : Prop := ∀ a ∈ p, a < s.length ∧ Fs D C (coord s a)
theorem Fs.num {N B : Nat} {q : Rat} (h : Fs N B q) : q.num.natAbs ≤ B * N ∧ q.den ≤ N := by
  obtain ⟨h0, z, e, hz⟩ := h
  have e2 : q = Rat.divInt z (N : Int) := by
    rw [Rat.divInt_eq_div, e, Rat.intCast_natCast]
  obtain ⟨d1, d2⟩ := divInt_pos (t := z) (b := (N : Int)) (by omega)
  rw [← e2] at d1 d2
  refine ⟨?_, ?_⟩
  · rw [d1]
    exact Nat.le_trans (Int.natAbs_ediv_le_natAbs _ _) hz
  · have : (q.den : Int) ≤ N := by
      rw [d2]
      exact Int.ediv_le_self _ (by omega)
    omega
theorem Sml.le {D C : Nat} (h : Sml D C) : D < 2 ^ 100 ∧ C < 2 ^ 100 := by
  obtain ⟨h1, h2, h3⟩ := h
  have a : D ≤ C * D := Nat.le_mul_of_pos_left _ h2
  have b : C ≤ C * D := Nat.le_mul_of_pos_right _ h1
  omega
theorem Sml.pow {D C m : Nat} (h : Sml D C) (hm : m ≤ 9) : (D * 840) ^ m < 2 ^ 990 ∧ C ^ m * (D * 840) ^ m < 2 ^ 990 := by
  obtain ⟨h1, h2, h3⟩ := id h
  have k : C * (D * 840) < 2 ^ 110 := by
    rw [← Nat.mul_assoc]
    have : (2 : Nat) ^ 110 = 2 ^ 100 * 1024 := by rw [show (1024 : Nat) = 2 ^ 10 from rfl, ← Nat.pow_add]
    omega
  have k1 : D * 840 < 2 ^ 110 := by
    have := h.le.1
    have : (2 : Nat) ^ 110 = 2 ^ 100 * 1024 := by rw [show (1024 : Nat) = 2 ^ 10 from rfl, ← Nat.pow_add]
    omega
  have up : ∀ x : Nat, x < 2 ^ 110 → x ^ m < 2 ^ 990 := fun x hx => by
    by_cases h0 : m = 0
    · subst h0
      exact Nat.one_lt_two_pow (by decide)
    · have a1 : x ^ m < (2 ^ 110) ^ m := Nat.pow_lt_pow_left hx h0
      rw [← Nat.pow_mul] at a1
      exact Nat.lt_of_lt_of_le a1 (Nat.pow_le_pow_right (by decide) (by omega))
  refine ⟨up _ k1, ?_⟩
  rw [← Nat.mul_pow]
  exact up _ k
theorem p990 : (2 : Nat) ^ 990 < 2 ^ 2000 := Nat.pow_lt_pow_right (by decide) (by decide)
theorem worth_sm {D C : Nat} (h : Sml D C) {s : List Rat} {p : List Nat} (hl : p.length ≤ 8) (hs : ∀ a ∈ p, Fs D C (coord s a)) : Sm (worthQ s p) := by
  obtain ⟨a, b⟩ := h.pow (m := p.length) (by omega)
  have := p990
  exact (worth_fs p hl hs).sm (by omega) (by omega)
theorem coord_sm {D C : Nat} (h : Sml D C) {q : Rat} (hq : Fs D C q) : Sm q := by
  have a : (2 : Nat) ^ 100 < 2 ^ 2000 := Nat.pow_lt_pow_right (by decide) (by decide)
  exact hq.sm (by have := h.le; omega) (by have := h.2.2; omega)
theorem div_sm {D C i : Nat} (h : Sml D C) {q : Rat} (hq : Fs D C q) (hi : i < 8) : Sm (q / ((i : Rat) + 1)) := by
  obtain ⟨a, b⟩ := h.pow (m := 1) (by omega)
  have := p990
  simp only [Nat.pow_one] at a b
  exact (hq.div hi).sm (by omega) (by omega)
theorem divInt_div (q : Rat) (i : Nat) : Rat.divInt q.num ((q.den : Int) * ((i : Int) + 1)) = q / ((i : Rat) + 1) := by
  have h1 : q = Rat.divInt q.num q.den := (Rat.num_divInt_den q).symm
  have h2 : (Rat.divInt q.num q.den) = (q.num : Rat) / (q.den : Rat) := by
    rw [Rat.divInt_eq_div, Rat.intCast_natCast]
  rw [Rat.divInt_eq_div, Rat.intCast_mul, Rat.intCast_add, Rat.intCast_natCast, Rat.intCast_natCast]
  have h3 : (q.den : Rat) ≠ 0 := cast_ne (Nat.pos_of_ne_zero q.den_nz)
  have h4 : ((i : Rat) + 1) ≠ 0 := by
    have := cast_ne (Nat.succ_pos i)
    rw [Nat.succ_eq_add_one, Rat.natCast_add] at this
    simpa using this
  have h5 : ((1 : Int) : Rat) = 1 := rfl
  rw [h5]
  conv => rhs; rw [h1, h2]
  grind
theorem enum_enc : ∀ (p : List Nat) (i : Nat), enumD i (p.map encN) = (p.zipIdx i).map fun q => D.tup [.int q.2, .int q.1]
  | [], _ => rfl
  | a :: r, i => by rw [List.map_cons, enumD, enum_enc r (i + 1), List.zipIdx_cons, List.map_cons]; rfl
theorem zipIdx_split {p : List Nat} {pre post : List (Nat × Nat)} {a i : Nat} : ∀ {k : Nat}, p.zipIdx k = pre ++ (a, i) :: post → i = k + pre.length ∧ p = pre.map (·.1) ++ a :: post.map (·.1) := by
  intro k h
  have hf : p = (p.zipIdx k).map (·.1) := by
    rw [List.zipIdx_map_fst]
  have h2 : (p.zipIdx k)[pre.length]? = some (a, i) := by
    rw [h]; simp
  rw [List.getElem?_zipIdx] at h2
  simp only [Option.map_eq_some_iff] at h2
  obtain ⟨x, hx, e⟩ := h2
  cases e
  refine ⟨by omega, ?_⟩
  rw [hf, h]
  simp
theorem range_split {m : Nat} {pre post : List Nat} {y : Nat} (h : List.range m = pre ++ y :: post) : y = pre.length ∧ y < m ∧ pre = List.range y := by
  have h2 : (List.range m)[pre.length]? = some y := by rw [h]; simp
  have hl : m = pre.length + (post.length + 1) := by
    have := congrArg List.length h
    simpa using this
  rw [List.getElem?_range (by omega)] at h2
  cases h2
  refine ⟨rfl, by omega, ?_⟩
  have := congrArg (List.take pre.length) h
  rw [List.take_range, Nat.min_eq_left (by omega)] at this
  simp at this
  exact this.symm
theorem cut_mid {xs : List D} {b e : Nat} (hb : b ≤ e) (he : e ≤ xs.length) : cutD xs (some (b : Int)) (some (e : Int)) = (xs.take e).drop b := by
  unfold cutD
  rw [HT.sIx_nat, HT.sIx_nat, Nat.min_eq_left he, Nat.min_eq_left (by omega), List.drop_take]
theorem mid_enc (p : List Nat) {b e : Nat} (hb : b ≤ e) (he : e ≤ p.length) : cutD (p.map encN) (some (b : Int)) (some (e : Int)) = (mid p b e).map encN := by
  rw [cut_mid hb (by simpa using he)]
  unfold mid
  rw [List.map_drop, List.map_take]
/-- reading a list, where it stands -/
theorem ix_of {S : Sto} {d : D} {xs : List D} (h : listOf S d = some xs) (k : Nat) : index d (.int (k : Int)) S = (match xs[k]? with | some x => .ok x S | none => .bad) := by
  have ht : tupOrList S d = some xs := by
    cases d <;> simp [listOf] at h <;> simp [tupOrList, listOf, h]
  have : index d (.int (k : Int)) S = (match tupOrList S d with
    | some xs => (match L2.atI xs (k : Int) with
      | some d => .ok d S
      | none => .bad)
    | none => .bad) := by
    cases d <;> first | rfl | simp [listOf] at h
  rw [this, ht]
  simp only [Y.atI_nat]
theorem ix_last {S : Sto} {d : D} {xs : List D} {x : D} (h : listOf S d = some (xs ++ [x])) : index d (.int (-1)) S = .ok x S := by
  have ht : tupOrList S d = some (xs ++ [x]) := by
    cases d <;> simp [listOf] at h <;> simp [tupOrList, listOf, h]
  have : index d (.int (-1)) S = (match tupOrList S d with
    | some xs => (match L2.atI xs (-1) with
      | some d => .ok d S
      | none => .bad)
    | none => .bad) := by
    cases d <;> first | rfl | simp [listOf] at h
  rw [this, ht]
  have e : L2.atI (xs ++ [x]) (-1) = some x := by
    unfold L2.atI L2.ixN
    rw [if_neg (by decide), if_pos (by simp; omega)]
    have e2 : ((-1 : Int) + ((xs ++ [x]).length : Int)).toNat = xs.length := by simp; omega
    simp only [Option.bind_some, e2]
    simp
  simp only [e]
theorem fr_one : D.tup [.int 1, .int 1] = fr 1 := rfl
theorem fr_zero : D.tup [.int 0, .int 1] = fr 0 := rfl
theorem list_app {S : Sto} {d : D} {xs : List D} (h : listOf S d = some xs) (os : List Ob) : listOf (S ++ os) d = some xs := by
  cases d with
  | lst ys => exact h
  | ref m =>
    simp only [listOf] at h ⊢
    cases q : S[m]? with
    | none => rw [q] at h; cases h
    | some o =>
      rw [q] at h
      rw [List.getElem?_append_left (List.getElem?_eq_some_iff.mp q).1, q]
      exact h
  | _ => simp [listOf] at h
end IT
end
section
set_option Elab.async false
set_option linter.all false
set_option maxRecDepth 100000
set_option autoImplicit false
set_option exponentiation.threshold 9000
/-! all ways to part a word for steps: their sum is the number -/
namespace IT
/-! ### sums over lists -/
def lsum {α : Type} (f : α → Rat) (xs : List α) : Rat := xs.foldl (fun acc x => acc + f x) 0
theorem lsum_acc {α : Type} (f : α → Rat) : ∀ (xs : List α) (a : Rat), xs.foldl (fun acc x => acc + f x) a = a + lsum f xs
  | [], a => by simp [lsum]; grind
  | x :: xs, a => by
    unfold lsum
    rw [List.foldl_cons, List.foldl_cons, lsum_acc f xs (a + f x), lsum_acc f xs (0 + f x)]
    grind
theorem lsum_nil {α : Type} (f : α → Rat) : lsum f [] = 0 := rfl
theorem lsum_cons {α : Type} (f : α → Rat) (x : α) (xs : List α) : lsum f (x :: xs) = f x + lsum f xs := by
  show xs.foldl (fun acc x => acc + f x) (0 + f x) = _
  rw [lsum_acc]
  grind
theorem lsum_app {α : Type} (f : α → Rat) (xs ys : List α) : lsum f (xs ++ ys) = lsum f xs + lsum f ys := by
  induction xs with
  | nil => simp [lsum_nil]; grind
  | cons x xs ih => rw [List.cons_append, lsum_cons, lsum_cons, ih]; grind
theorem lsum_snoc {α : Type} (f : α → Rat) (xs : List α) (x : α) : lsum f (xs ++ [x]) = lsum f xs + f x := by
  rw [lsum_app, lsum_cons, lsum_nil]
  grind
theorem lsum_congr {α : Type} {f g : α → Rat} : ∀ {xs : List α}, (∀ x ∈ xs, f x = g x) → lsum f xs = lsum g xs
  | [], _ => rfl
  | x :: xs, h => by rw [lsum_cons, lsum_cons, h x List.mem_cons_self, lsum_congr fun y hy => h y (List.mem_cons_of_mem _ hy)]
theorem lsum_flat {α β : Type} (f : β → Rat) (g : α → List β) : ∀ xs : List α, lsum f (xs.flatMap g) = lsum (fun x => lsum f (g x)) xs
  | [] => rfl
  | x :: xs => by rw [List.flatMap_cons, lsum_app, lsum_cons, lsum_flat f g xs]
theorem lsum_map {α β : Type} (f : β → Rat) (g : α → β) : ∀ xs : List α, lsum f (xs.map g) = lsum (fun x => f (g x)) xs
  | [] => rfl
  | x :: xs => by rw [List.map_cons, lsum_cons, lsum_cons, lsum_map f g xs]
theorem lsum_filter {α : Type} (f : α → Rat) (p : α → Bool) : ∀ xs : List α, lsum f (xs.filter p) = lsum (fun x => if p x = true then f x else 0) xs
  | [] => rfl
  | x :: xs => by
    rw [List.filter_cons, lsum_cons]
    cases h : p x with
    | true => rw [if_pos rfl, if_pos rfl, lsum_cons, lsum_filter f p xs]
    | false => rw [if_neg Bool.false_ne_true, if_neg Bool.false_ne_true, lsum_filter f p xs]; grind
theorem lsum_range (f : Nat → Rat) : ∀ k, lsum f (List.range k) = sumR f k
  | 0 => rfl
  | k + 1 => by rw [List.range_succ, lsum_snoc, lsum_range f k, sumR]
theorem lsum_fs {α : Type} {f : α → Rat} {N B : Nat} (hN : 0 < N) : ∀ {xs : List α}, (∀ x ∈ xs, Fs N B (f x)) → Fs N (xs.length * B) (lsum f xs)
  | [], _ => Fs.zero hN
  | x :: xs, h => by
    rw [lsum_cons, List.length_cons, Nat.succ_mul, Nat.add_comm]
    exact (h x List.mem_cons_self).add (lsum_fs hN fun y hy => h y (List.mem_cons_of_mem _ hy))
theorem sumR_add (f g : Nat → Rat) : ∀ k, sumR (fun b => f b + g b) k = sumR f k + sumR g k
  | 0 => by simp only [sumR]; grind
  | k + 1 => by rw [sumR, sumR, sumR, sumR_add f g k]; grind
theorem sumR_zero : ∀ k, sumR (fun _ => 0) k = 0
  | 0 => rfl
  | k + 1 => by rw [sumR, sumR_zero k]; grind
/-- a sum of which one place alone is not 0 -/
theorem sumR_one (x : Rat) (W : Nat → Rat) (b : Nat) : ∀ k, sumR (fun i => (if i = b then x else 0) * W i) k = if b < k then x * W b else 0
  | 0 => rfl
  | k + 1 => by
    rw [sumR, sumR_one x W b k]
    by_cases h : k = b
    · subst h
      rw [if_neg (by omega), if_pos rfl, if_pos (by omega)]
      grind
    · rw [if_neg h]
      by_cases h2 : b < k
      · rw [if_pos h2, if_pos (by omega)]; grind
      · rw [if_neg h2, if_neg (by omega)]; grind
/-! ### the sizes of the parts -/
def ext (q : List Nat × Nat) : List (List Nat × Nat) := (List.range (q.2 + 1)).map fun own => (q.1 ++ [own], q.2 - own)
def szs (m : Nat) : Nat → List (List Nat × Nat)
  | 0 => [([], m)]
  | k + 1 => (szs m k).flatMap ext
theorem szs_mem {m : Nat} : ∀ {k : Nat} {q : List Nat × Nat}, q ∈ szs m k → q.1.length = k ∧ q.1.sum + q.2 = m
  | 0, q, h => by
    rw [szs, List.mem_singleton] at h
    subst h
    simp
  | k + 1, q, h => by
    rw [szs, List.mem_flatMap] at h
    obtain ⟨r, hr, hq⟩ := h
    obtain ⟨h1, h2⟩ := szs_mem hr
    unfold ext at hq
    obtain ⟨own, ho, rfl⟩ := List.mem_map.mp hq
    have := List.mem_range.mp ho
    refine ⟨by simp [h1], ?_⟩
    simp only [List.sum_append, List.sum_cons, List.sum_nil]
    omega
theorem ext_len (q : List Nat × Nat) : (ext q).length = q.2 + 1 := by simp [ext]
theorem flat_len {m : Nat} : ∀ {xs : List (List Nat × Nat)}, (∀ q ∈ xs, q.2 ≤ m) → (xs.flatMap ext).length ≤ xs.length * (m + 1)
  | [], _ => by simp
  | q :: xs, h => by
    rw [List.flatMap_cons, List.length_append, ext_len, List.length_cons, Nat.succ_mul]
    have a := flat_len (m := m) fun q hq => h q (List.mem_cons_of_mem _ hq)
    have b := h q List.mem_cons_self
    omega
theorem szs_le {m k : Nat} {q : List Nat × Nat} (h : q ∈ szs m k) : q.2 ≤ m := by have := (szs_mem h).2; omega
theorem szs_len (m : Nat) : ∀ k, (szs m k).length ≤ (m + 1) ^ k
  | 0 => by simp [szs]
  | k + 1 => by
    rw [szs, Nat.pow_succ]
    exact Nat.le_trans (flat_len fun q hq => szs_le hq) (Nat.mul_le_mul_right _ (szs_len m k))
/-- the product for sizes, and where the word is -/
def valS (p : List Nat) (xs : List (List Rat × Nat)) : Rat × Nat := xs.foldl (fun q x => (q.1 * worthQ x.1 (mid p q.2 (q.2 + x.2)), q.2 + x.2)) (1, 0)
theorem valS_snoc (p : List Nat) (xs : List (List Rat × Nat)) (x : List Rat × Nat) : valS p (xs ++ [x]) = ((valS p xs).1 * worthQ x.1 (mid p (valS p xs).2 ((valS p xs).2 + x.2)), (valS p xs).2 + x.2) := by
  unfold valS
  rw [List.foldl_append]
  rfl
theorem valS_sum (p : List Nat) (xs : List (List Rat × Nat)) : (valS p xs).2 = (xs.map (·.2)).sum := by
  refine snoc_ind (P := fun xs => (valS p xs).2 = (xs.map (·.2)).sum) rfl (fun xs x ih => ?_) xs
  rw [valS_snoc, List.map_append, List.sum_append, ih]
  simp
def valQ (p : List Nat) (ss : List (List Rat)) (z : List Nat) : Rat := (valS p (ss.zip z)).1
theorem val_fs {p : List Nat} {M C : Nat} : ∀ (xs : List (List Rat × Nat)), (xs.map (·.2)).sum ≤ p.length → p.length ≤ 8 → (∀ x ∈ xs, ∀ a ∈ p, Fs M C (coord x.1 a)) → Fs ((M * 840) ^ (valS p xs).2) (C ^ (valS p xs).2) (valS p xs).1 := by
  refine snoc_ind (fun _ _ _ => Fs.one) fun xs x ih => ?_
  intro hz hl h
  rw [List.map_append, List.sum_append] at hz
  simp only [List.map_cons, List.map_nil, List.sum_cons, List.sum_nil] at hz
  have h1 := ih (by omega) hl fun y hy => h y (by simp [hy])
  have hb := valS_sum p xs
  have hm := mid_len p (b := (valS p xs).2) (e := (valS p xs).2 + x.2) (by omega) (by omega)
  have h2 := worth_fs (s := x.1) (D := M) (C := C) (mid p (valS p xs).2 ((valS p xs).2 + x.2)) (by rw [hm]; omega) fun a ha => h x (by simp) a (mid_mem ha)
  rw [valS_snoc]
  have h3 := h1.mul h2
  rw [hm, Nat.add_sub_cancel_left, ← Nat.pow_add, ← Nat.pow_add] at h3
  exact h3
/-- by exchange of sums -/
theorem exch (n e : Nat) (V : List Nat × Nat → Rat) (W : Nat → Rat) : ∀ xs : List (List Nat × Nat), (∀ q ∈ xs, q.2 ≤ n) →
    lsum (fun q => if n - q.2 ≤ e then V q * W (n - q.2) else 0) xs = sumR (fun b => lsum (fun q => if q.2 + b = n then V q else 0) xs * W b) (e + 1)
  | [], _ => by
    rw [lsum_nil]
    have : (fun b => lsum (fun q : List Nat × Nat => if q.2 + b = n then V q else 0) [] * W b) = fun _ => (0 : Rat) := by
      funext b
      rw [lsum_nil]
      grind
    rw [this, sumR_zero]
  | q :: xs, h => by
    have hq := h q List.mem_cons_self
    rw [lsum_cons, exch n e V W xs fun q hq => h q (List.mem_cons_of_mem _ hq)]
    have e1 : (fun b => lsum (fun q => if q.2 + b = n then V q else 0) (q :: xs) * W b) = fun b => (if b = n - q.2 then V q else 0) * W b + lsum (fun q => if q.2 + b = n then V q else 0) xs * W b := by
      funext b
      rw [lsum_cons]
      by_cases hb : b = n - q.2
      · rw [if_pos hb, if_pos (by omega)]; grind
      · rw [if_neg hb, if_neg (by omega)]; grind
    rw [e1, sumR_add, sumR_one]
    by_cases hb : n - q.2 ≤ e
    · rw [if_pos hb, if_pos (by omega)]
    · rw [if_neg hb, if_neg (by omega)]
theorem zip_snoc {α β : Type} : ∀ {xs : List α} {ys : List β} (x : α) (y : β), xs.length = ys.length → (xs ++ [x]).zip (ys ++ [y]) = xs.zip ys ++ [(x, y)]
  | [], [], _, _, _ => rfl
  | a :: xs, b :: ys, x, y, h => by simp only [List.cons_append, List.zip_cons_cons, zip_snoc x y (by simpa using h)]
  | [], b :: ys, _, _, h => by simp at h
  | a :: xs, [], _, _, h => by simp at h
theorem sizes_num (p : List Nat) : ∀ (ss : List (List Rat)) (e : Nat), e ≤ p.length → lsum (fun q => if q.2 + e = p.length then valQ p ss q.1 else 0) (szs p.length ss.length) = numH p ss e := by
  refine snoc_ind (P := fun ss => ∀ e, e ≤ p.length → lsum (fun q => if q.2 + e = p.length then valQ p ss q.1 else 0) (szs p.length ss.length) = numH p ss e) (fun e he => ?_) (fun ss s ih => ?_)
  · show lsum _ [([], p.length)] = startH e
    rw [lsum_cons, lsum_nil]
    unfold startH
    by_cases h : e = 0
    · rw [if_pos h, if_pos (by show p.length + e = p.length; omega)]
      show (1 : Rat) + 0 = 1
      grind
    · rw [if_neg h, if_neg (by show ¬ p.length + e = p.length; omega)]
      grind
  · intro e he
    rw [List.length_append, List.length_singleton, numH_app]
    unfold stepH
    rw [szs, lsum_flat]
    have e1 : sumR (fun b => numH p ss b * worthQ s (mid p b e)) (e + 1) = sumR (fun b => lsum (fun q => if q.2 + b = p.length then valQ p ss q.1 else 0) (szs p.length ss.length) * worthQ s (mid p b e)) (e + 1) :=
      sumR_congr _ fun b hb => by rw [ih b (by omega)]
    rw [e1, ← exch p.length e (fun q => valQ p ss q.1) (fun b => worthQ s (mid p b e)) _ fun q hq => szs_le hq]
    refine lsum_congr fun q hq => ?_
    obtain ⟨h1, h2⟩ := szs_mem hq
    have hv : ∀ own, valQ p (ss ++ [s]) (q.1 ++ [own]) = valQ p ss q.1 * worthQ s (mid p (p.length - q.2) (p.length - q.2 + own)) := fun own => by
      unfold valQ
      rw [zip_snoc s own h1.symm, valS_snoc]
      have : (valS p (ss.zip q.1)).2 = p.length - q.2 := by
        rw [valS_sum]
        have : (ss.zip q.1).map (·.2) = q.1 := by
          have := List.map_snd_zip (l₁ := ss) (l₂ := q.1) (by omega)
          exact this
        rw [this]
        omega
      rw [this]
    unfold ext
    rw [lsum_map, lsum_range]
    have e2 : sumR (fun own => if q.2 - own + e = p.length then valQ p (ss ++ [s]) (q.1 ++ [own]) else 0) (q.2 + 1) = sumR (fun own => (if own = q.2 + e - p.length then (if p.length - q.2 ≤ e then valQ p ss q.1 else 0) else 0) * worthQ s (mid p (p.length - q.2) (p.length - q.2 + own))) (q.2 + 1) :=
      sumR_congr _ fun own ho => by
        rw [hv]
        by_cases hc : q.2 - own + e = p.length
        · rw [if_pos hc, if_pos (by omega), if_pos (by omega)]
        · rw [if_neg hc]
          by_cases hd : own = q.2 + e - p.length
          · rw [if_pos hd, if_neg (by omega)]; grind
          · rw [if_neg hd]; grind
    show sumR (fun own => if q.2 - own + e = p.length then valQ p (ss ++ [s]) (q.1 ++ [own]) else 0) (q.2 + 1) = _
    rw [e2, sumR_one, if_pos (by omega)]
    by_cases hc : p.length - q.2 ≤ e
    · rw [if_pos hc, if_pos hc, show p.length - q.2 + (q.2 + e - p.length) = e by omega]
    · rw [if_neg hc, if_neg hc]; grind
/-- all ways: their sum is the number -/
theorem ways_num (p : List Nat) (ss : List (List Rat)) : lsum (fun q => valQ p ss q.1) ((szs p.length ss.length).filter fun q => decide (q.2 = 0)) = numQ ss p := by
  rw [lsum_filter]
  unfold numQ
  rw [← sizes_num p ss p.length (Nat.le_refl _)]
  refine lsum_congr fun q hq => ?_
  by_cases h : q.2 = 0
  · rw [if_pos (by simp [h]), if_pos (by omega)]
  · rw [if_neg (by simp [h]), if_neg (by omega)]
/-! ### when numbers stay small -/
def NumOk (p : List Nat) (ss : List (List Rat)) : Prop := ∀ pre s post, ss = pre ++ s :: post → OkH p s (numH p pre) ∧ ∃ M C, Sml M C ∧ StepOk M C p s
theorem start_fs {M : Nat} (hM : 1 ≤ M) (b : Nat) : Fs ((M * 840) ^ b) 1 (startH b) := by
  unfold startH
  by_cases h : b = 0
  · subst h; exact Fs.one
  · rw [if_neg h]; exact Fs.zero (Nat.pow_pos (by omega))
theorem num_fs {p : List Nat} {M C : Nat} (hM : 1 ≤ M) (hC : 1 ≤ C) (hl : p.length ≤ 8) : ∀ (ss : List (List Rat)), (∀ s ∈ ss, ∀ a ∈ p, Fs M C (coord s a)) → ∀ b, b ≤ p.length → Fs ((M * 840) ^ b) ((9 * C ^ p.length) ^ ss.length) (numH p ss b) := by
  refine snoc_ind (fun _ b _ => start_fs hM b) fun ss s ih => ?_
  intro h b hb
  rw [numH_app, List.length_append, List.length_singleton, Nat.pow_succ]
  have := step_fs (p := p) (s := s) (B := (9 * C ^ p.length) ^ ss.length) hM hC hl (ih fun t ht => h t (by simp [ht])) (h s (by simp)) b hb
  exact this.mono (by rw [Nat.mul_left_comm]; exact Nat.le_refl _)
/-- of a line with numbers within one bound -/
theorem numOk_of {p : List Nat} {M C : Nat} (hD : Sml M C) (hl : p.length ≤ 8) {ss : List (List Rat)} (hs : ∀ s ∈ ss, StepOk M C p s) (hz : 9 * ((9 * C ^ p.length) ^ ss.length * C ^ p.length) * (M * 840) ^ p.length < 2 ^ 2000) : NumOk p ss := by
  intro pre s post e
  obtain ⟨hM, hC, _⟩ := id hD
  have hsm : s ∈ ss := by rw [e]; simp
  refine ⟨okH_of hM hC (Nat.pow_pos (n := pre.length) (Nat.mul_pos (by decide) (Nat.pow_pos hC))) hl (num_fs hM hC hl pre fun t ht a ha => (hs t (by rw [e]; exact List.mem_append_left _ ht) a ha).2) (fun a ha => (hs s hsm a ha).2) ?_, M, C, hD, hs s hsm⟩
  refine Nat.lt_of_le_of_lt (Nat.mul_le_mul_right _ (Nat.mul_le_mul_left _ (Nat.mul_le_mul_right _ ?_))) hz
  exact Nat.pow_le_pow_right (Nat.mul_pos (by decide) (Nat.pow_pos hC)) (by rw [e]; simp)
theorem num_sm {p : List Nat} {M C : Nat} (hD : Sml M C) (hl : p.length ≤ 8) {ss : List (List Rat)} (hs : ∀ s ∈ ss, StepOk M C p s) (hz : 9 * ((9 * C ^ p.length) ^ ss.length * C ^ p.length) * (M * 840) ^ p.length < 2 ^ 2000) : Sm (numQ ss p) := by
  obtain ⟨hM, hC, _⟩ := id hD
  have f := num_fs hM hC hl ss (fun t ht a ha => (hs t ht a ha).2) p.length (Nat.le_refl _)
  have c1 : 1 ≤ C ^ p.length := Nat.pow_pos hC
  have c2 : 1 ≤ (9 * C ^ p.length) ^ ss.length := Nat.pow_pos (by omega)
  have c3 : (9 * C ^ p.length) ^ ss.length ≤ 9 * ((9 * C ^ p.length) ^ ss.length * C ^ p.length) := by
    have := Nat.le_mul_of_pos_right ((9 * C ^ p.length) ^ ss.length) c1
    omega
  have c4 := Nat.mul_le_mul_right ((M * 840) ^ p.length) c3
  have c5 := Nat.le_mul_of_pos_left ((M * 840) ^ p.length) c2
  exact f.sm (by omega) (by omega)
/-! ### two letters -/
theorem mid_full (p : List Nat) : mid p 0 p.length = p := by
  unfold mid
  rw [List.take_length, List.drop_zero]
theorem numH_two (a b : Nat) (ss : List (List Rat)) : numH [a, b] ss 0 = 1 ∧ numH [a, b] ss 1 = lsum (fun s => coord s a) ss := by
  refine snoc_ind (P := fun ss => numH [a, b] ss 0 = 1 ∧ numH [a, b] ss 1 = lsum (fun s => coord s a) ss) ⟨rfl, rfl⟩ (fun ss s ih => ?_) ss
  obtain ⟨h0, h1⟩ := ih
  rw [numH_app]
  have m0 : mid [a, b] 0 0 = [] := rfl
  have m1 : mid [a, b] 0 1 = [a] := rfl
  have m2 : mid [a, b] 1 1 = [] := rfl
  refine ⟨?_, ?_⟩
  · show sumR _ 1 = 1
    simp only [sumR, h0, m0, worth_nil]
    grind
  · show sumR _ 2 = _
    simp only [sumR, h0, h1, m1, m2, worth_nil, worth_one]
    rw [lsum_snoc]
    grind
/-- the end at a letter -/
def endQ (ss : List (List Rat)) (a : Nat) : Rat := lsum (fun s => coord s a) ss
theorem end_snoc (ss : List (List Rat)) (s : List Rat) (a : Nat) : endQ (ss ++ [s]) a = endQ ss a + coord s a := lsum_snoc _ _ _
theorem end_app (ss ts : List (List Rat)) (a : Nat) : endQ (ss ++ ts) a = endQ ss a + endQ ts a := lsum_app _ _ _
theorem num_two (ss : List (List Rat)) (s : List Rat) (a b : Nat) : numQ (ss ++ [s]) [a, b] = numQ ss [a, b] + endQ ss a * coord s b + coord s a * coord s b / 2 := by
  obtain ⟨h0, h1⟩ := numH_two a b ss
  show numH [a, b] (ss ++ [s]) 2 = _
  rw [numH_app]
  have m0 : mid [a, b] 0 2 = [a, b] := rfl
  have m1 : mid [a, b] 1 2 = [b] := rfl
  have m2 : mid [a, b] 2 2 = [] := rfl
  show sumR _ 3 = _
  simp only [sumR, h0, h1, m0, m1, m2, worth_nil, worth_one, worth_two]
  have e : numH [a, b] ss 2 = numQ ss [a, b] := rfl
  have e2 : lsum (fun s => coord s a) ss = endQ ss a := rfl
  rw [e, e2]
  grind
theorem num_two_nil (a b : Nat) : numQ [] [a, b] = 0 := rfl
theorem num_one (ss : List (List Rat)) (b : Nat) : numQ ss [b] = endQ ss b := by
  have : numH [b] ss 0 = 1 ∧ numH [b] ss 1 = endQ ss b := by
    refine snoc_ind (P := fun ss => numH [b] ss 0 = 1 ∧ numH [b] ss 1 = endQ ss b) ⟨rfl, rfl⟩ (fun ss s ih => ?_) ss
    obtain ⟨h0, h1⟩ := ih
    rw [numH_app]
    have m0 : mid [b] 0 0 = [] := rfl
    have m1 : mid [b] 0 1 = [b] := rfl
    have m2 : mid [b] 1 1 = [] := rfl
    refine ⟨?_, ?_⟩
    · show sumR _ 1 = 1
      simp only [sumR, h0, m0, worth_nil]
      grind
    · show sumR _ 2 = _
      simp only [sumR, h0, h1, m1, m2, worth_nil, worth_one]
      rw [end_snoc]
      grind
  exact this.2
/-- the area of two letters -/
def areaQ (ss : List (List Rat)) (a b : Nat) : Rat := 1 / 2 * (numQ ss [a, b] - numQ ss [b, a])
theorem area_snoc (ss : List (List Rat)) (s : List Rat) (a b : Nat) : areaQ (ss ++ [s]) a b = areaQ ss a b + 1 / 2 * (endQ ss a * coord s b - endQ ss b * coord s a) := by
  unfold areaQ
  rw [num_two, num_two]
  grind
theorem area_nil (a b : Nat) : areaQ [] a b = 0 := by
  unfold areaQ
  rw [num_two_nil, num_two_nil]
  grind
/-- of joined lines: both areas, and half of what both ends make crosswise -/
theorem area_join (ss : List (List Rat)) (a b : Nat) (ts : List (List Rat)) : areaQ (ss ++ ts) a b = areaQ ss a b + areaQ ts a b + 1 / 2 * (endQ ss a * endQ ts b - endQ ss b * endQ ts a) := by
  refine snoc_ind (P := fun ts => areaQ (ss ++ ts) a b = areaQ ss a b + areaQ ts a b + 1 / 2 * (endQ ss a * endQ ts b - endQ ss b * endQ ts a)) ?_ (fun ts t ih => ?_) ts
  · rw [List.append_nil, area_nil]
    have : endQ [] b = 0 ∧ endQ [] a = 0 := ⟨rfl, rfl⟩
    rw [this.1, this.2]
    grind
  · rw [← List.append_assoc, area_snoc, area_snoc, ih, end_app, end_app, end_snoc, end_snoc]
    grind
def negS (s : List Rat) : List Rat := s.map (- ·)
def backS (ss : List (List Rat)) : List (List Rat) := ss.reverse.map negS
theorem coord_neg (s : List Rat) (a : Nat) : coord (negS s) a = - coord s a := by
  unfold coord negS
  rw [List.getD_eq_getElem?_getD, List.getD_eq_getElem?_getD, List.getElem?_map]
  cases s[a]? with
  | none => show (0 : Rat) = - 0; grind
  | some q => rfl
theorem back_snoc (ss : List (List Rat)) (s : List Rat) : backS (ss ++ [s]) = negS s :: backS ss := by
  unfold backS
  rw [List.reverse_append]
  rfl
theorem end_back (a : Nat) (ss : List (List Rat)) : endQ (backS ss) a = - endQ ss a := by
  refine snoc_ind (P := fun ss => endQ (backS ss) a = - endQ ss a) (by show (0 : Rat) = - 0; grind) (fun ss s ih => ?_) ss
  rw [back_snoc, end_snoc]
  show lsum _ (negS s :: backS ss) = _
  rw [lsum_cons, coord_neg]
  have : lsum (fun s => coord s a) (backS ss) = endQ (backS ss) a := rfl
  rw [this, ih]
  grind
theorem area_one (s : List Rat) (a b : Nat) : areaQ [s] a b = 0 := by
  have := area_snoc [] s a b
  rw [List.nil_append, area_nil] at this
  rw [this]
  have : endQ [] b = 0 ∧ endQ [] a = 0 := ⟨rfl, rfl⟩
  rw [this.1, this.2]
  grind
theorem area_back (a b : Nat) (ss : List (List Rat)) : areaQ (backS ss) a b = - areaQ ss a b := by
  refine snoc_ind (P := fun ss => areaQ (backS ss) a b = - areaQ ss a b) (by rw [area_nil]; show areaQ [] a b = _; rw [area_nil]; grind) (fun ss s ih => ?_) ss
  rw [back_snoc, area_snoc]
  have := area_join [negS s] a b (backS ss)
  rw [List.singleton_append] at this
  rw [this, ih, area_one, end_back, end_back]
  have e : ∀ c, endQ [negS s] c = - coord s c := fun c => by
    show lsum _ [negS s] = _
    rw [lsum_cons, lsum_nil, coord_neg]
    grind
  rw [e, e]
  grind
theorem end_fs {M C a : Nat} (hM : 1 ≤ M) {ss : List (List Rat)} (hs : ∀ s ∈ ss, Fs M C (coord s a)) : Fs M (ss.length * C) (endQ ss a) := lsum_fs hM hs
theorem fr_neg (q : Rat) : D.tup [.int (-q.num), .int q.den] = fr (-q) := by
  unfold fr
  rw [Rat.neg_num, Rat.neg_den]
end IT
end
section
set_option Elab.async false
set_option linter.all false
set_option maxRecDepth 100000
set_option autoImplicit false
/-! IT: closed parts, piece by piece -/
namespace IT
theorem evs_nil0 {f : E → Sto → R D} {S : Sto} : evs f [] S = .ok [] S := rfl
theorem evs_nx {f : E → Sto → R D} {e : E} {r : List E} {d : D} {ds : List D} {S S1 S2 : Sto} (h : f e S = .ok d S1) (h2 : evs f r S1 = .ok ds S2) : evs f (e :: r) S = .ok (d :: ds) S2 := by
  show (f e S).bind _ = _
  rw [h]
  show (evs f r S1).bind _ = _
  rw [h2]
  rfl
theorem forl_nil0 {g : Sto → Bool} {f : D → Env → Sto → O} {δ : Env} {S : Sto} (h : g S = true) : forl g f [] δ S = .nx δ S := by
  show (if g S = true then O.nx δ S else .bad) = _
  rw [if_pos h]
theorem forl_nx {g : Sto → Bool} {f : D → Env → Sto → O} {x : D} {r : List D} {δ δ' : Env} {S S' : Sto} {o : O} (h : g S = true) (h1 : f x δ S = .nx δ' S') (h2 : forl g f r δ' S' = o) : forl g f (x :: r) δ S = o := by
  show (if g S = true then (match f x δ S with
    | .nx δ' S' => forl g f r δ' S'
    | .ct δ' S' => forl g f r δ' S'
    | .bk δ' S' => .nx δ' S'
    | o => o) else .bad) = _
  rw [if_pos h, h1]
  exact h2
section
variable {c : Calls} {G : Nat → Nat → Option Bool} {δ δ' : Env} {S S1 S2 : Sto}
theorem for_cl {t : T} {it : E} {b : List IT.S} {q : List D × List (Nat × List D)} {o : O} (h : items (fun e S => evx c G {} e δ S) it S = .ok q S1) (h2 : forl (stands q.2) (forF t (exs (exx c G {}) b)) q.1 δ S1 = o) : exx c G {} (.for_ t it b) δ S = o := by
  rw [exx_for, h]
  exact h2
theorem asg_cl {t : T} {e : E} {d : D} (h : evx c G {} e δ S = .ok d S1) (hp : T.put S1 t d δ = some δ') : exx c G {} (.asg t e) δ S = .nx δ' S1 := by
  rw [exx_asg, h]
  show (match T.put S1 t d δ with | some δ' => O.nx δ' S1 | none => .bad) = _
  rw [hp]
theorem lst_cl {es : List E} {ds : List D} (h : evs (fun e S => evx c G {} e δ S) es S = .ok ds S1) (hl : ds.length ≤ PySem.sizeLine) : evx c G {} (.lst es) δ S = .ok (.lst ds) S1 := by
  rw [evx_lst, h]
  show (if ds.length ≤ PySem.sizeLine then R.ok (D.lst ds) S1 else .bad) = _
  rw [if_pos hl]
theorem bin_cl {o : BO} {a b : E} {x y d : D} {S3 : Sto} (h1 : evx c G {} a δ S = .ok x S1) (h2 : evx c G {} b δ S1 = .ok y S2) (h3 : binop o x y S2 = .ok d S3) : evx c G {} (.bin o a b) δ S = .ok d S3 := by
  rw [evx_bin, h1]
  show (evx c G {} b δ S1).bind _ = _
  rw [h2]
  exact h3
theorem v_cl {i : Nat} {d : D} (h : δ[i]? = some (some d)) : evx c G {} (.v i) δ S = .ok d S := by
  rw [evx_v, h]
end
end IT
end
section
set_option Elab.async false
set_option linter.all false
set_option maxRecDepth 100000
namespace K47
open PySem PySem.Spec PyProof.Rows L2 IT
def gl : List (Str × GV) := [(("is_whole" : PySem.Str), .fn 0), (("is_tuple_of" : PySem.Str), .fn 1), (("is_fraction" : PySem.Str), .fn 2), (("need_letters" : PySem.Str), .fn 3), (("is_word_of" : PySem.Str), .fn 4), (("is_word" : PySem.Str), .fn 5), (("is_step_of" : PySem.Str), .fn 6), (("is_line" : PySem.Str), .fn 7), (("is_level" : PySem.Str), .fn 8), (("are_words" : PySem.Str), .fn 9), (("fits_line" : PySem.Str), .fn 10), (("is_setting" : PySem.Str), .fn 11), (("need_setting" : PySem.Str), .fn 12), (("is_order_in" : PySem.Str), .fn 13), (("is_code_in" : PySem.Str), .fn 14), (("need_code" : PySem.Str), .fn 15), (("full_in" : PySem.Str), .fn 16), (("needs" : PySem.Str), .fn 17), (("fault_at" : PySem.Str), .fn 18), (("fault_in" : PySem.Str), .fn 19), (("is_order" : PySem.Str), .fn 20), (("is_code" : PySem.Str), .fn 21), (("code_fault" : PySem.Str), .fn 22), (("full_code" : PySem.Str), .fn 23), (("least_code" : PySem.Str), .fn 24), (("_law_cup" : PySem.Str), .fn 25), (("_law_roll" : PySem.Str), .fn 26), (("_law_some" : PySem.Str), .fn 27), (("_law_sort" : PySem.Str), .fn 28), (("_law_like" : PySem.Str), .fn 29), (("_law_setting" : PySem.Str), .fn 30), (("_law_order" : PySem.Str), .fn 31), (("_law_full" : PySem.Str), .fn 32), (("_law_needs" : PySem.Str), .fn 33), (("_law_fault" : PySem.Str), .fn 34), (("_law_least" : PySem.Str), .fn 35), (("_law_error" : PySem.Str), .fn 36), (("_law_right" : PySem.Str), .fn 37), (("_law_errors" : PySem.Str), .fn 38), (("law" : PySem.Str), .fn 39), (("LineError" : PySem.Str), .cls 40), (("InvalidNumber" : PySem.Str), .cls 41), (("InvalidSet" : PySem.Str), .cls 42), (("InvalidCode" : PySem.Str), .cls 43), (("NotFound" : PySem.Str), .cls 44), (("LETTERS" : PySem.Str), .con (.int 4)), (("LONG" : PySem.Str), .con (.int 8)), (("STEPS_lines" : PySem.Str), .con (.int 400)), (("STEPS_linesettings" : PySem.Str), .con (.int 40)), (("WORDS" : PySem.Str), .con (.int 10)), (("LEVELS" : PySem.Str), .con (.tup [(.int 0), (.int 8), (.int 7), (.int 5), (.int 4)])), (("MOST" : PySem.Str), .con (.int 50)), (("NUMBERS" : PySem.Str), .con (.int 10)), (("PLAIN" : PySem.Str), .con (.tup [(.str ("read" : PySem.Str)), (.str ("least" : PySem.Str)), (.str ("row" : PySem.Str)), (.str ("log" : PySem.Str)), (.str ("axis" : PySem.Str)), (.str ("check" : PySem.Str))])), (("ROW" : PySem.Str), .con (.tup [(.str ("row" : PySem.Str))])), (("len" : PySem.Str), .free), (("abs" : PySem.Str), .free), (("int" : PySem.Str), .free), (("tuple" : PySem.Str), .free), (("list" : PySem.Str), .free), (("all" : PySem.Str), .free), (("any" : PySem.Str), .free), (("str" : PySem.Str), .free), (("isinstance" : PySem.Str), .free), (("range" : PySem.Str), .free), (("zip" : PySem.Str), .free), (("enumerate" : PySem.Str), .free), (("bool" : PySem.Str), .free), (("sorted" : PySem.Str), .free), (("gcd" : PySem.Str), .gcd)]
def cls : List Str := [("LineError" : PySem.Str), ("InvalidNumber" : PySem.Str), ("InvalidSet" : PySem.Str), ("InvalidCode" : PySem.Str), ("NotFound" : PySem.Str)]
def rows : List IT.Row := [
  ⟨[("value" : PySem.Str), ("low" : PySem.Str), ("high" : PySem.Str)], [("value" : PySem.Str), ("low" : PySem.Str), ("high" : PySem.Str)], false, []⟩,
  ⟨[("value" : PySem.Str), ("low" : PySem.Str), ("high" : PySem.Str)], [("value" : PySem.Str), ("low" : PySem.Str), ("high" : PySem.Str)], false, []⟩,
  ⟨[("value" : PySem.Str)], [("value" : PySem.Str), (".0" : PySem.Str), ("part" : PySem.Str)], false, []⟩,
  ⟨[("value" : PySem.Str)], [("value" : PySem.Str)], false, []⟩,
  ⟨[("letters" : PySem.Str), ("value" : PySem.Str)], [("letters" : PySem.Str), ("value" : PySem.Str), (".0" : PySem.Str), ("own" : PySem.Str)], false, []⟩,
  ⟨[("letters" : PySem.Str), ("value" : PySem.Str)], [("letters" : PySem.Str), ("value" : PySem.Str)], false, []⟩,
  ⟨[("letters" : PySem.Str), ("value" : PySem.Str)], [("letters" : PySem.Str), ("value" : PySem.Str), (".0" : PySem.Str), ("own" : PySem.Str)], false, []⟩,
  ⟨[("value" : PySem.Str)], [("value" : PySem.Str), (".0" : PySem.Str), ("step" : PySem.Str)], false, []⟩,
  ⟨[("letters" : PySem.Str), ("value" : PySem.Str)], [("letters" : PySem.Str), ("value" : PySem.Str)], false, []⟩,
  ⟨[("letters" : PySem.Str), ("value" : PySem.Str)], [("letters" : PySem.Str), ("value" : PySem.Str), (".0" : PySem.Str), ("own" : PySem.Str)], false, []⟩,
  ⟨[("value" : PySem.Str)], [("value" : PySem.Str)], false, []⟩,
  ⟨[("value" : PySem.Str)], [("value" : PySem.Str)], false, []⟩,
  ⟨[("value" : PySem.Str)], [("value" : PySem.Str)], false, []⟩,
  ⟨[("value" : PySem.Str)], [("value" : PySem.Str)], false, []⟩,
  ⟨[("value" : PySem.Str)], [("value" : PySem.Str), (".0" : PySem.Str), ("order" : PySem.Str)], false, []⟩,
  ⟨[("value" : PySem.Str)], [("value" : PySem.Str)], false, []⟩,
  ⟨[("setting" : PySem.Str)], [("setting" : PySem.Str), ("words" : PySem.Str), (".0" : PySem.Str), ("at" : PySem.Str)], false, []⟩,
  ⟨[("setting" : PySem.Str), ("order" : PySem.Str)], [("setting" : PySem.Str), ("order" : PySem.Str), (".0" : PySem.Str), ("own" : PySem.Str)], false, []⟩,
  ⟨[("setting" : PySem.Str), ("code" : PySem.Str), ("at" : PySem.Str)], [("setting" : PySem.Str), ("code" : PySem.Str), ("at" : PySem.Str), ("order" : PySem.Str), ("needed" : PySem.Str), ("lacks" : PySem.Str), (".0" : PySem.Str), ("own" : PySem.Str)], false, []⟩,
  ⟨[("setting" : PySem.Str), ("code" : PySem.Str)], [("setting" : PySem.Str), ("code" : PySem.Str), ("faults" : PySem.Str), (".0" : PySem.Str), ("at" : PySem.Str), ("own" : PySem.Str)], false, []⟩,
  ⟨[("value" : PySem.Str)], [("value" : PySem.Str)], false, []⟩,
  ⟨[("value" : PySem.Str)], [("value" : PySem.Str)], false, []⟩,
  ⟨[("setting" : PySem.Str), ("code" : PySem.Str)], [("setting" : PySem.Str), ("code" : PySem.Str)], false, []⟩,
  ⟨[("setting" : PySem.Str)], [("setting" : PySem.Str)], false, []⟩,
  ⟨[("setting" : PySem.Str), ("order" : PySem.Str)], [("setting" : PySem.Str), ("order" : PySem.Str), ("needed" : PySem.Str), ("first" : PySem.Str), (".0" : PySem.Str), ("own" : PySem.Str)], false, []⟩,
  ⟨[("script" : PySem.Str)], [("script" : PySem.Str), ("cell" : PySem.Str)], false, [(123, 11)]⟩,
  ⟨[("cup" : PySem.Str), ("many" : PySem.Str)], [("cup" : PySem.Str), ("many" : PySem.Str), ("found" : PySem.Str)], false, []⟩,
  ⟨[("cup" : PySem.Str), ("things" : PySem.Str)], [("cup" : PySem.Str), ("things" : PySem.Str)], false, []⟩,
  ⟨[("value" : PySem.Str)], [("value" : PySem.Str)], false, []⟩,
  ⟨[("one" : PySem.Str), ("other" : PySem.Str)], [("one" : PySem.Str), ("other" : PySem.Str), ("sort" : PySem.Str), (".0" : PySem.Str), ("first" : PySem.Str), ("second" : PySem.Str)], false, []⟩,
  ⟨[("cup" : PySem.Str)], [("cup" : PySem.Str), (".0" : PySem.Str), ("at" : PySem.Str)], false, []⟩,
  ⟨[("cup" : PySem.Str)], [("cup" : PySem.Str), ("way" : PySem.Str)], false, []⟩,
  ⟨[("setting" : PySem.Str)], [("setting" : PySem.Str), ("found" : PySem.Str), ("at" : PySem.Str)], false, [(154, 12)]⟩,
  ⟨[("setting" : PySem.Str), ("order" : PySem.Str)], [("setting" : PySem.Str), ("order" : PySem.Str), (".0" : PySem.Str), ("own" : PySem.Str)], false, []⟩,
  ⟨[("setting" : PySem.Str), ("code" : PySem.Str)], [("setting" : PySem.Str), ("code" : PySem.Str), ("at" : PySem.Str), ("order" : PySem.Str), ("needs_v" : PySem.Str), ("lacks" : PySem.Str), (".0" : PySem.Str), ("own" : PySem.Str)], false, []⟩,
  ⟨[("setting" : PySem.Str), ("order" : PySem.Str)], [("setting" : PySem.Str), ("order" : PySem.Str), ("found" : PySem.Str), (".0" : PySem.Str), ("own" : PySem.Str)], false, []⟩,
  ⟨[("call" : PySem.Str)], [("call" : PySem.Str), ("e" : PySem.Str), ("pairs" : PySem.Str), (".0" : PySem.Str), ("word" : PySem.Str), ("good" : PySem.Str)], false, []⟩,
  ⟨[("cup" : PySem.Str), ("setting" : PySem.Str)], [("cup" : PySem.Str), ("setting" : PySem.Str), ("full" : PySem.Str), ("turn" : PySem.Str), ("code" : PySem.Str), ("at" : PySem.Str), ("codes" : PySem.Str), ("order" : PySem.Str), (".0" : PySem.Str), ("own" : PySem.Str), ("one" : PySem.Str)], true, []⟩,
  ⟨[], [("words" : PySem.Str), ("odds" : PySem.Str), ("odd" : PySem.Str), ("told" : PySem.Str), ("good" : PySem.Str), (".0" : PySem.Str), ("call" : PySem.Str)], true, [(204, 37), (206, 16), (209, 12), (210, 12)]⟩,
  ⟨[("script" : PySem.Str)], [("script" : PySem.Str), ("cup" : PySem.Str), ("s" : PySem.Str), ("t" : PySem.Str), ("told" : PySem.Str), ("due" : PySem.Str), ("full" : PySem.Str), ("turn" : PySem.Str)], false, []⟩]
/-- is_whole: [("value" : PySem.Str), ("low" : PySem.Str), ("high" : PySem.Str)] -/
def b0 : FnI := ⟨3, 3, false, [
  .ret (some (.and (.isi (.v 0) "int") (.and (.nt (.isi (.v 0) "bool")) (.chn .le .le (.v 1) (.v 0) (.v 2)))))]⟩
/-- is_tuple_of: [("value" : PySem.Str), ("low" : PySem.Str), ("high" : PySem.Str)] -/
def b1 : FnI := ⟨3, 3, false, [
  .ret (some (.and (.isi (.v 0) "tuple") (.chn .le .le (.v 1) (.bi .len [(.v 0)]) (.v 2))))]⟩
/-- is_fraction: [("value" : PySem.Str), (".0" : PySem.Str), ("part" : PySem.Str)] -/
def b2 : FnI := ⟨1, 3, false, [
  .ite (.nt (.call 1 [(.v 0), (.k (.int 2)), (.k (.int 2))])) [
    .ret (some (.k (.bl false)))] [],
  .ite (.nt (.bi .all [(.lc false (.and (.isi (.v 2) "int") (.nt (.isi (.v 2) "bool"))) (.n 2) (.v 0) none [1, 2])])) [
    .ret (some (.k (.bl false)))] [],
  .ret (some (.and (.cmp .ge (.ix (.v 0) (.k (.int 1))) (.k (.int 1))) (.cmp .eq (.bi .gcd [(.ix (.v 0) (.k (.int 0))), (.ix (.v 0) (.k (.int 1)))]) (.k (.int 1)))))]⟩
/-- need_letters: [("value" : PySem.Str)] -/
def b3 : FnI := ⟨1, 1, false, [
  .ite (.nt (.call 0 [(.v 0), (.k (.int 1)), (.k (.int 4))])) [
    .rai 41] []]⟩
/-- is_word_of: [("letters" : PySem.Str), ("value" : PySem.Str), (".0" : PySem.Str), ("own" : PySem.Str)] -/
def b4 : FnI := ⟨2, 4, false, [
  .ret (some (.and (.call 1 [(.v 1), (.k (.int 0)), (.k (.int 8))]) (.bi .all [(.lc false (.call 0 [(.v 3), (.k (.int 0)), (.bin .sub (.v 0) (.k (.int 1)))]) (.n 3) (.v 1) none [2, 3])])))]⟩
/-- is_word: [("letters" : PySem.Str), ("value" : PySem.Str)] -/
def b5 : FnI := ⟨2, 2, false, [
  .ex (.call 3 [(.v 0)]),
  .ret (some (.call 4 [(.v 0), (.v 1)]))]⟩
/-- is_step_of: [("letters" : PySem.Str), ("value" : PySem.Str), (".0" : PySem.Str), ("own" : PySem.Str)] -/
def b6 : FnI := ⟨2, 4, false, [
  .ite (.or (.nt (.call 1 [(.v 1), (.v 0), (.v 0)])) (.nt (.bi .all [(.lc false (.call 2 [(.v 3)]) (.n 3) (.v 1) none [2, 3])]))) [
    .ret (some (.k (.bl false)))] [],
  .ret (some (.bi .any [(.lc false (.cmp .ne (.ix (.v 3) (.k (.int 0))) (.k (.int 0))) (.n 3) (.v 1) none [2, 3])]))]⟩
/-- is_line: [("value" : PySem.Str), (".0" : PySem.Str), ("step" : PySem.Str)] -/
def b7 : FnI := ⟨1, 3, false, [
  .ite (.or (.nt (.call 1 [(.v 0), (.k (.int 2)), (.k (.int 2))])) (.or (.nt (.call 0 [(.ix (.v 0) (.k (.int 0))), (.k (.int 1)), (.k (.int 4))])) (.nt (.call 1 [(.ix (.v 0) (.k (.int 1))), (.k (.int 0)), (.k (.int 400))])))) [
    .ret (some (.k (.bl false)))] [],
  .ret (some (.bi .all [(.lc false (.call 6 [(.ix (.v 0) (.k (.int 0))), (.v 2)]) (.n 2) (.ix (.v 0) (.k (.int 1))) none [1, 2])]))]⟩
/-- is_level: [("letters" : PySem.Str), ("value" : PySem.Str)] -/
def b8 : FnI := ⟨2, 2, false, [
  .ret (some (.call 0 [(.v 1), (.k (.int 0)), (.ix (.k (.tup [(.int 0), (.int 8), (.int 7), (.int 5), (.int 4)])) (.v 0))]))]⟩
/-- are_words: [("letters" : PySem.Str), ("value" : PySem.Str), (".0" : PySem.Str), ("own" : PySem.Str)] -/
def b9 : FnI := ⟨2, 4, false, [
  .ret (some (.and (.call 1 [(.v 1), (.k (.int 0)), (.k (.int 10))]) (.bi .all [(.lc false (.call 5 [(.v 0), (.v 3)]) (.n 3) (.v 1) none [2, 3])])))]⟩
/-- fits_line: [("value" : PySem.Str)] -/
def b10 : FnI := ⟨1, 1, false, [
  .ret (some (.and (.call 7 [(.v 0)]) (.cmp .le (.bi .len [(.ix (.v 0) (.k (.int 1)))]) (.k (.int 40)))))]⟩
/-- is_setting: [("value" : PySem.Str)] -/
def b11 : FnI := ⟨1, 1, false, [
  .ite (.or (.nt (.call 1 [(.v 0), (.k (.int 3)), (.k (.int 3))])) (.nt (.call 10 [(.ix (.v 0) (.k (.int 0)))]))) [
    .ret (some (.k (.bl false)))] [],
  .ret (some (.and (.call 8 [(.ix (.ix (.v 0) (.k (.int 0))) (.k (.int 0))), (.ix (.v 0) (.k (.int 1)))]) (.call 9 [(.ix (.ix (.v 0) (.k (.int 0))) (.k (.int 0))), (.ix (.v 0) (.k (.int 2)))])))]⟩
/-- need_setting: [("value" : PySem.Str)] -/
def b12 : FnI := ⟨1, 1, false, [
  .ite (.nt (.call 11 [(.v 0)])) [
    .rai 42] []]⟩
/-- is_order_in: [("value" : PySem.Str)] -/
def b13 : FnI := ⟨1, 1, false, [
  .ite (.or (.nt (.call 1 [(.v 0), (.k (.int 1)), (.k (.int 2))])) (.nt (.isi (.ix (.v 0) (.k (.int 0))) "str"))) [
    .ret (some (.k (.bl false)))] [],
  .ite (.cmp .eq (.bi .len [(.v 0)]) (.k (.int 1))) [
    .ret (some (.cmp .in_ (.ix (.v 0) (.k (.int 0))) (.k (.tup [(.str ("read" : PySem.Str)), (.str ("least" : PySem.Str)), (.str ("row" : PySem.Str)), (.str ("log" : PySem.Str)), (.str ("axis" : PySem.Str)), (.str ("check" : PySem.Str))]))))] [],
  .ret (some (.and (.cmp .eq (.ix (.v 0) (.k (.int 0))) (.k (.str ("word" : PySem.Str)))) (.call 0 [(.ix (.v 0) (.k (.int 1))), (.k (.int 0)), (.bin .sub (.k (.int 10)) (.k (.int 1)))])))]⟩
/-- is_code_in: [("value" : PySem.Str), (".0" : PySem.Str), ("order" : PySem.Str)] -/
def b14 : FnI := ⟨1, 3, false, [
  .ret (some (.and (.call 1 [(.v 0), (.k (.int 0)), (.k (.int 50))]) (.bi .all [(.lc false (.call 13 [(.v 2)]) (.n 2) (.v 0) none [1, 2])])))]⟩
/-- need_code: [("value" : PySem.Str)] -/
def b15 : FnI := ⟨1, 1, false, [
  .ite (.nt (.call 14 [(.v 0)])) [
    .rai 43] []]⟩
/-- full_in: [("setting" : PySem.Str), ("words" : PySem.Str), (".0" : PySem.Str), ("at" : PySem.Str)] -/
def b16 : FnI := ⟨1, 4, false, [
  .asg (.n 1) (.bi .tuple [(.lc false (.tup [(.k (.str ("word" : PySem.Str))), (.v 3)]) (.n 3) (.rng none (.bi .len [(.ix (.v 0) (.k (.int 2)))])) none [2, 3])]),
  .ret (some (.bin .add (.bin .add (.tup [(.tup [(.k (.str ("read" : PySem.Str)))]), (.tup [(.k (.str ("least" : PySem.Str)))]), (.k (.tup [(.str ("row" : PySem.Str))])), (.tup [(.k (.str ("log" : PySem.Str)))]), (.tup [(.k (.str ("axis" : PySem.Str)))])]) (.v 1)) (.tup [(.tup [(.k (.str ("check" : PySem.Str)))])])))]⟩
/-- needs: [("setting" : PySem.Str), ("order" : PySem.Str), (".0" : PySem.Str), ("own" : PySem.Str)] -/
def b17 : FnI := ⟨2, 4, false, [
  .ite (.cmp .eq (.ix (.v 1) (.k (.int 0))) (.k (.str ("word" : PySem.Str)))) [
    .ret (some (.ite (.cmp .lt (.ix (.v 1) (.k (.int 1))) (.bi .len [(.ix (.v 0) (.k (.int 2)))])) (.lst []) (.k .non)))] [],
  .ite (.cmp .eq (.ix (.v 1) (.k (.int 0))) (.k (.str ("check" : PySem.Str)))) [
    .ret (some (.bi .sorted [(.lc false (.v 3) (.n 3) (.call 16 [(.v 0)]) (some (.cmp .ne (.v 3) (.v 1))) [2, 3])]))] [],
  .ret (some (.ite (.cmp .in_ (.ix (.v 1) (.k (.int 0))) (.tup [(.k (.str ("log" : PySem.Str))), (.k (.str ("axis" : PySem.Str)))])) (.lst [(.k (.tup [(.str ("row" : PySem.Str))]))]) (.lst [])))]⟩
/-- fault_at: [("setting" : PySem.Str), ("code" : PySem.Str), ("at" : PySem.Str), ("order" : PySem.Str), ("needed" : PySem.Str), ("lacks" : PySem.Str), (".0" : PySem.Str), ("own" : PySem.Str)] -/
def b18 : FnI := ⟨3, 8, false, [
  .asg (.n 3) (.ix (.v 1) (.v 2)),
  .asg (.n 4) (.call 17 [(.v 0), (.v 3)]),
  .ite (.cmp .is (.v 4) (.k .non)) [
    .ret (some (.tup [(.v 2), (.k (.str ("none" : PySem.Str)))]))] [],
  .ite (.cmp .in_ (.v 3) (.sl (.v 1) none (some (.v 2)))) [
    .ret (some (.tup [(.v 2), (.k (.str ("twice" : PySem.Str)))]))] [],
  .asg (.n 5) (.lc false (.v 7) (.n 7) (.v 4) (some (.cmp .notin (.v 7) (.sl (.v 1) none (some (.v 2))))) [6, 7]),
  .ret (some (.ite (.cmp .ne (.v 5) (.lst [])) (.tup [(.v 2), (.k (.str ("need" : PySem.Str))), (.ix (.v 5) (.k (.int 0)))]) (.k .non)))]⟩
/-- fault_in: [("setting" : PySem.Str), ("code" : PySem.Str), ("faults" : PySem.Str), (".0" : PySem.Str), ("at" : PySem.Str), ("own" : PySem.Str)] -/
def b19 : FnI := ⟨2, 6, false, [
  .asg (.n 2) (.lc false (.call 18 [(.v 0), (.v 1), (.v 4)]) (.n 4) (.rng none (.bi .len [(.v 1)])) none [3, 4]),
  .ret (some (.ix (.bin .add (.lc false (.v 5) (.n 5) (.v 2) (some (.cmp .isnot (.v 5) (.k .non))) [3, 5]) (.lst [(.k .non)])) (.k (.int 0))))]⟩
/-- is_order: [("value" : PySem.Str)] -/
def b20 : FnI := ⟨1, 1, false, [
  .ret (some (.call 13 [(.v 0)]))]⟩
/-- is_code: [("value" : PySem.Str)] -/
def b21 : FnI := ⟨1, 1, false, [
  .ret (some (.call 14 [(.v 0)]))]⟩
/-- code_fault: [("setting" : PySem.Str), ("code" : PySem.Str)] -/
def b22 : FnI := ⟨2, 2, false, [
  .ex (.call 12 [(.v 0)]),
  .ex (.call 15 [(.v 1)]),
  .ret (some (.call 19 [(.v 0), (.v 1)]))]⟩
/-- full_code: [("setting" : PySem.Str)] -/
def b23 : FnI := ⟨1, 1, false, [
  .ex (.call 12 [(.v 0)]),
  .ret (some (.call 16 [(.v 0)]))]⟩
/-- least_code: [("setting" : PySem.Str), ("order" : PySem.Str), ("needed" : PySem.Str), ("first" : PySem.Str), (".0" : PySem.Str), ("own" : PySem.Str)] -/
def b24 : FnI := ⟨2, 6, false, [
  .ex (.call 12 [(.v 0)]),
  .ite (.nt (.call 13 [(.v 1)])) [
    .rai 43] [],
  .asg (.n 2) (.call 17 [(.v 0), (.v 1)]),
  .ite (.cmp .is (.v 2) (.k .non)) [
    .rai 44] [],
  .asg (.n 3) (.ite (.cmp .in_ (.k (.tup [(.str ("row" : PySem.Str))])) (.v 2)) (.tup [(.k (.tup [(.str ("row" : PySem.Str))]))]) (.tup [])),
  .ret (some (.bin .add (.bin .add (.v 3) (.bi .tuple [(.lc false (.v 5) (.n 5) (.v 2) (some (.cmp .ne (.v 5) (.k (.tup [(.str ("row" : PySem.Str))])))) [4, 5])])) (.tup [(.v 1)])))]⟩
/-- _law_cup: [("script" : PySem.Str), ("cell" : PySem.Str)] -/
def b25 : FnI := ⟨1, 2, true, [
  .asg (.n 1) (.bi .abs [(.ix (.bin .add (.bi .list [(.v 0)]) (.lst [(.k (.int 0))])) (.k (.int 0)))]),
  .ret (some (.nlst [(.ite (.cmp .ge (.v 1) (.bin .pow (.k (.int 10)) (.k (.int 18)))) (.bin .fdiv (.v 1) (.k (.int 283))) (.k (.int 0))), (.bin .mod (.bi .int [(.bin .add (.bin .mul (.v 1) (.k (.int 1061))) (.k (.int 89533)))]) (.k (.int 1048576)))]))]⟩
/-- _law_roll: [("cup" : PySem.Str), ("many" : PySem.Str), ("found" : PySem.Str)] -/
def b26 : FnI := ⟨2, 3, false, [
  .ite (.cmp .gt (.ix (.v 0) (.k (.int 0))) (.k (.int 0))) [
    .asg (.n 2) (.bin .mod (.bi .int [(.ix (.v 0) (.k (.int 0)))]) (.v 1)),
    .setix (.v 0) (.k (.int 0)) (.bin .fdiv (.ix (.v 0) (.k (.int 0))) (.v 1)),
    .ret (some (.v 2))] [],
  .setix (.v 0) (.k (.int 1)) (.bin .mod (.bi .int [(.bin .add (.bin .mul (.ix (.v 0) (.k (.int 1))) (.k (.int 19141))) (.k (.int 40277)))]) (.k (.int 1048576))),
  .ret (some (.bin .mod (.bi .int [(.bin .fdiv (.ix (.v 0) (.k (.int 1))) (.k (.int 113)))]) (.v 1)))]⟩
/-- _law_some: [("cup" : PySem.Str), ("things" : PySem.Str)] -/
def b27 : FnI := ⟨2, 2, false, [
  .ret (some (.ix (.v 1) (.call 26 [(.v 0), (.bi .len [(.v 1)])])))]⟩
/-- _law_sort: [("value" : PySem.Str)] -/
def b28 : FnI := ⟨1, 1, false, [
  .ite (.or (.cmp .is (.v 0) (.k .non)) (.isi (.v 0) "bool")) [
    .ret (some (.ite (.cmp .is (.v 0) (.k .non)) (.k (.int 0)) (.k (.int 1))))] [],
  .ite (.or (.isi (.v 0) "int") (.isi (.v 0) "str")) [
    .ret (some (.ite (.isi (.v 0) "int") (.k (.int 2)) (.k (.int 3))))] [],
  .ret (some (.ite (.isi (.v 0) "tuple") (.k (.int 4)) (.ite (.isi (.v 0) "list") (.k (.int 5)) (.k (.int 6)))))]⟩
/-- _law_like: [("one" : PySem.Str), ("other" : PySem.Str), ("sort" : PySem.Str), (".0" : PySem.Str), ("first" : PySem.Str), ("second" : PySem.Str)] -/
def b29 : FnI := ⟨2, 6, false, [
  .asg (.n 2) (.call 28 [(.v 1)]),
  .ite (.or (.cmp .ne (.call 28 [(.v 0)]) (.v 2)) (.cmp .eq (.v 2) (.k (.int 6)))) [
    .ret (some (.k (.bl false)))] [],
  .ite (.cmp .in_ (.v 2) (.tup [(.k (.int 4)), (.k (.int 5))])) [
    .ret (some (.and (.cmp .eq (.bi .len [(.v 0)]) (.bi .len [(.v 1)])) (.cmp .eq (.lc false (.k (.int 1)) (.t [(.n 4), (.n 5)]) (.zip (.v 0) (.v 1)) (some (.nt (.call 29 [(.v 4), (.v 5)]))) [3, 4, 5]) (.lst []))))] [],
  .ret (some (.cmp .eq (.v 0) (.v 1)))]⟩
/-- _law_setting: [("cup" : PySem.Str), (".0" : PySem.Str), ("at" : PySem.Str)] -/
def b30 : FnI := ⟨1, 3, false, [
  .ret (some (.tup [(.tup [(.k (.int 2)), (.tup [(.tup [(.tup [(.k (.int 1)), (.k (.int 1))]), (.tup [(.k (.int 0)), (.k (.int 1))])])])]), (.k (.int 2)), (.bi .tuple [(.lc false (.bin .mul (.tup [(.k (.int 0))]) (.v 2)) (.n 2) (.rng none (.call 26 [(.v 0), (.k (.int 4))])) none [1, 2])])]))]⟩
/-- _law_order: [("cup" : PySem.Str), ("way" : PySem.Str)] -/
def b31 : FnI := ⟨1, 2, false, [
  .asg (.n 1) (.call 26 [(.v 0), (.k (.int 10))]),
  .ite (.cmp .lt (.v 1) (.k (.int 6))) [
    .ret (some (.tup [(.call 27 [(.v 0), (.lst [(.k (.str ("read" : PySem.Str))), (.k (.str ("least" : PySem.Str))), (.k (.str ("row" : PySem.Str))), (.k (.str ("log" : PySem.Str))), (.k (.str ("axis" : PySem.Str))), (.k (.str ("check" : PySem.Str)))])])]))] [],
  .ret (some (.tup [(.k (.str ("word" : PySem.Str))), (.call 26 [(.v 0), (.k (.int 4))])]))]⟩
/-- _law_full: [("setting" : PySem.Str), ("found" : PySem.Str), ("at" : PySem.Str)] -/
def b32 : FnI := ⟨1, 3, false, [
  .asg (.n 1) (.nlst [(.tup [(.k (.str ("read" : PySem.Str)))]), (.tup [(.k (.str ("least" : PySem.Str)))]), (.tup [(.k (.str ("row" : PySem.Str)))]), (.tup [(.k (.str ("log" : PySem.Str)))]), (.tup [(.k (.str ("axis" : PySem.Str)))])]),
  .for_ (.n 2) (.rng none (.bi .len [(.ix (.v 0) (.k (.int 2)))])) [
    .ex (.app (.v 1) (.tup [(.k (.str ("word" : PySem.Str))), (.v 2)]))],
  .ret (some (.bi .tuple [(.bin .add (.v 1) (.lst [(.tup [(.k (.str ("check" : PySem.Str)))])]))]))]⟩
/-- _law_needs: [("setting" : PySem.Str), ("order" : PySem.Str), (".0" : PySem.Str), ("own" : PySem.Str)] -/
def b33 : FnI := ⟨2, 4, false, [
  .ite (.cmp .eq (.ix (.v 1) (.k (.int 0))) (.k (.str ("word" : PySem.Str)))) [
    .ret (some (.ite (.cmp .lt (.ix (.v 1) (.k (.int 1))) (.bi .len [(.ix (.v 0) (.k (.int 2)))])) (.lst []) (.k .non)))] [],
  .ite (.cmp .eq (.v 1) (.tup [(.k (.str ("check" : PySem.Str)))])) [
    .ret (some (.bi .sorted [(.lc false (.v 3) (.n 3) (.call 32 [(.v 0)]) (some (.cmp .ne (.v 3) (.tup [(.k (.str ("check" : PySem.Str)))]))) [2, 3])]))] [],
  .ret (some (.ite (.cmp .in_ (.v 1) (.tup [(.tup [(.k (.str ("log" : PySem.Str)))]), (.tup [(.k (.str ("axis" : PySem.Str)))])])) (.lst [(.tup [(.k (.str ("row" : PySem.Str)))])]) (.lst [])))]⟩
/-- _law_fault: [("setting" : PySem.Str), ("code" : PySem.Str), ("at" : PySem.Str), ("order" : PySem.Str), ("needs_v" : PySem.Str), ("lacks" : PySem.Str), (".0" : PySem.Str), ("own" : PySem.Str)] -/
def b34 : FnI := ⟨2, 8, false, [
  .for_ (.t [(.n 2), (.n 3)]) (.enum (.v 1)) [
    .asg (.n 4) (.call 33 [(.v 0), (.v 3)]),
    .ite (.cmp .is (.v 4) (.k .non)) [
      .ret (some (.tup [(.v 2), (.k (.str ("none" : PySem.Str)))]))] [],
    .ite (.cmp .in_ (.v 3) (.sl (.v 1) none (some (.v 2)))) [
      .ret (some (.tup [(.v 2), (.k (.str ("twice" : PySem.Str)))]))] [],
    .asg (.n 5) (.lc false (.v 7) (.n 7) (.v 4) (some (.cmp .notin (.v 7) (.sl (.v 1) none (some (.v 2))))) [6, 7]),
    .ite (.cmp .ne (.v 5) (.lst [])) [
      .ret (some (.tup [(.v 2), (.k (.str ("need" : PySem.Str))), (.ix (.v 5) (.k (.int 0)))]))] []],
  .ret (some (.k .non))]⟩
/-- _law_least: [("setting" : PySem.Str), ("order" : PySem.Str), ("found" : PySem.Str), (".0" : PySem.Str), ("own" : PySem.Str)] -/
def b35 : FnI := ⟨2, 5, false, [
  .asg (.n 2) (.ite (.cmp .in_ (.tup [(.k (.str ("row" : PySem.Str)))]) (.call 33 [(.v 0), (.v 1)])) (.lst [(.tup [(.k (.str ("row" : PySem.Str)))])]) (.lst [])),
  .ret (some (.bi .tuple [(.bin .add (.bin .add (.v 2) (.lc false (.v 4) (.n 4) (.call 33 [(.v 0), (.v 1)]) (some (.cmp .ne (.v 4) (.tup [(.k (.str ("row" : PySem.Str)))]))) [3, 4])) (.lst [(.v 1)]))]))]⟩
def b36 : ClI := ⟨40, 6, [
  .asg (.n 2) (.lst [(.tup [(.k (.str ("code" : PySem.Str))), (.exi 43)]), (.tup [(.k (.str ("set" : PySem.Str))), (.exi 42)]), (.tup [(.k (.str ("found" : PySem.Str))), (.exi 44)])]),
  .ret (some (.join (.k (.str (" " : PySem.Str))) (.bin .add (.lc false (.v 4) (.t [(.n 4), (.n 5)]) (.v 2) (some (.v 5)) [3, 4, 5]) (.lst [(.k (.str ("error" : PySem.Str)))]))))], [
  .ret (some (.k (.str ("" : PySem.Str))))]⟩
/-- _law_right: [("cup" : PySem.Str), ("setting" : PySem.Str), ("full" : PySem.Str), ("turn" : PySem.Str), ("code" : PySem.Str), ("at" : PySem.Str), ("codes" : PySem.Str), ("order" : PySem.Str), (".0" : PySem.Str), ("own" : PySem.Str), ("one" : PySem.Str)] -/
def b37 : FnI := ⟨2, 11, false, [
  .asg (.n 2) (.call 32 [(.v 1)]),
  .ite (.nt (.call 29 [(.lst [(.call 23 [(.v 1)]), (.call 22 [(.v 1), (.v 2)]), (.call 21 [(.v 2)])]), (.lst [(.v 2), (.k .non), (.k (.bl true))])])) [
    .ret (some (.k (.bl false)))] [],
  .for_ (.n 3) (.rng none (.k (.int 4))) [
    .asg (.n 4) (.bi .tuple [(.lc false (.call 31 [(.v 0)]) (.n 9) (.rng none (.call 26 [(.v 0), (.k (.int 6))])) none [8, 9])]),
    .asg (.n 5) (.call 26 [(.v 0), (.bi .len [(.v 2)])]),
    .asg (.n 6) (.lst [(.v 4), (.bin .add (.sl (.v 2) none (some (.v 5))) (.sl (.v 2) (some (.bin .add (.v 5) (.k (.int 1)))) none)), (.bin .add (.bin .add (.sl (.v 2) none (some (.v 5))) (.tup [(.ix (.v 2) (.v 5))])) (.sl (.v 2) (some (.v 5)) none)), (.bin .add (.sl (.v 2) (some (.v 5)) none) (.sl (.v 2) none (some (.v 5)))), (.bin .add (.v 2) (.tup [(.ix (.v 2) (.v 5))]))]),
    .ite (.cmp .ne (.lc false (.v 10) (.n 10) (.v 6) (some (.nt (.call 29 [(.lst [(.call 22 [(.v 1), (.v 10)]), (.call 21 [(.v 10)])]), (.lst [(.call 34 [(.v 1), (.v 10)]), (.k (.bl true))])]))) [8, 10]) (.lst [])) [
      .ret (some (.k (.bl false)))] []],
  .for_ (.n 5) (.rng none (.bin .add (.bi .len [(.v 2)]) (.k (.int 1)))) [
    .asg (.n 7) (.ite (.cmp .lt (.v 5) (.bi .len [(.v 2)])) (.ix (.v 2) (.v 5)) (.tup [(.k (.str ("word" : PySem.Str))), (.bi .len [(.ix (.v 1) (.k (.int 2)))])])),
    .ite (.cmp .is (.call 33 [(.v 1), (.v 7)]) (.k .non)) [
      .ite (.cmp .ne (.lam 36 (.call 24 [(.v 1), (.v 7)])) (.k (.str ("found error" : PySem.Str)))) [
        .ret (some (.k (.bl false)))] []] [
      .ite (.nt (.call 29 [(.lst [(.call 24 [(.v 1), (.v 7)]), (.call 22 [(.v 1), (.call 35 [(.v 1), (.v 7)])])]), (.lst [(.call 35 [(.v 1), (.v 7)]), (.k .non)])])) [
        .ret (some (.k (.bl false)))] []]],
  .ret (some (.k (.bl true)))]⟩
/-- _law_errors: [("words" : PySem.Str), ("odds" : PySem.Str), ("odd" : PySem.Str), ("told" : PySem.Str), ("good" : PySem.Str), (".0" : PySem.Str), ("call" : PySem.Str)] -/
def b38 : FnI := ⟨0, 7, false, [
  .asg (.t [(.n 4), (.n 0)]) (.tup [(.tup [(.tup [(.k (.int 1)), (.tup [])]), (.k (.int 0)), (.tup [])]), (.nlst [])]),
  .for_ (.n 2) (.tup [(.k .non), (.tup []), (.tup [(.tup [(.k (.int 1)), (.tup [])]), (.k (.int 0))]), (.tup [(.tup [(.k (.int 1)), (.tup [])]), (.k (.int 9)), (.tup [])]), (.tup [(.tup [(.k (.int 1)), (.tup [])]), (.k (.int 0)), (.tup [(.tup [(.k (.int 1))])])]), (.tup [(.tup [(.k (.int 1)), (.tup [])]), (.k (.int 0)), (.k .non)]), (.lst [(.tup [(.k (.int 1)), (.tup [])]), (.k (.int 0)), (.tup [])])]) [
    .asg (.n 0) (.bin .cat (.v 0) (.lc false (.lam 36 (.callv 6 [(.v 2), (.k .non)])) (.n 6) (.tup [(.g 22), (.g 24)]) none [5, 6])),
    .ex (.app (.v 0) (.lam 36 (.call 23 [(.v 2)])))],
  .asg (.n 1) (.tup [(.k .non), (.tup [(.k (.str ("read" : PySem.Str)))]), (.lst [(.tup [(.k (.str ("read" : PySem.Str)))])]), (.bin .mul (.tup [(.tup [(.k (.str ("read" : PySem.Str)))])]) (.k (.int 51))), (.tup [(.tup [])]), (.tup [(.tup [(.k (.str ("rows" : PySem.Str)))])]), (.tup [(.tup [(.k (.str ("word" : PySem.Str)))])]), (.tup [(.tup [(.k (.str ("word" : PySem.Str))), (.k (.int 10))])]), (.tup [(.tup [(.k (.str ("word" : PySem.Str))), (.neg (.k (.int 1)))])]), (.tup [(.tup [(.k (.str ("word" : PySem.Str))), (.k (.bl true))])]), (.tup [(.lst [(.k (.str ("row" : PySem.Str)))])]), (.tup [(.tup [(.k (.str ("read" : PySem.Str))), (.k (.int 0))])])]),
  .asg (.n 0) (.bin .cat (.v 0) (.lc false (.lam 36 (.call 22 [(.v 4), (.v 2)])) (.n 2) (.v 1) none [5, 2])),
  .asg (.n 0) (.bin .cat (.v 0) (.lc false (.lam 36 (.call 24 [(.v 4), (.v 2)])) (.n 2) (.tup [(.k .non), (.tup []), (.tup [(.k (.str ("rows" : PySem.Str)))]), (.tup [(.k (.str ("word" : PySem.Str)))]), (.tup [(.k (.str ("word" : PySem.Str))), (.k (.int 10))]), (.lst [(.k (.str ("row" : PySem.Str)))]), (.tup [(.tup [(.k (.str ("row" : PySem.Str)))])])]) none [5, 2])),
  .ite (.cmp .ne (.v 0) (.bin .add (.bin .mul (.lst [(.k (.str ("set error" : PySem.Str)))]) (.k (.int 21))) (.bin .mul (.lst [(.k (.str ("code error" : PySem.Str)))]) (.k (.int 19))))) [
    .ret (some (.k (.bl false)))] [],
  .asg (.n 3) (.lst [(.call 20 [(.tup [(.k (.str ("word" : PySem.Str))), (.k (.int 9))])]), (.call 20 [(.tup [(.k (.str ("word" : PySem.Str))), (.k (.int 10))])]), (.call 20 [(.tup [(.k (.str ("word" : PySem.Str))), (.k (.str ("1" : PySem.Str)))])]), (.call 20 [(.tup [(.k (.str ("check" : PySem.Str))), (.k (.int 0))])]), (.call 20 [(.tup [(.k (.str ("read" : PySem.Str)))])]), (.call 20 [(.k .non)]), (.call 20 [(.k (.str ("read" : PySem.Str)))])]),
  .asg (.n 3) (.bin .add (.v 3) (.lst [(.call 21 [(.tup [])]), (.call 21 [(.bin .mul (.tup [(.tup [(.k (.str ("read" : PySem.Str)))])]) (.k (.int 50)))]), (.call 21 [(.bin .mul (.tup [(.tup [(.k (.str ("read" : PySem.Str)))])]) (.k (.int 51)))]), (.call 21 [(.lst [(.tup [(.k (.str ("read" : PySem.Str)))])])]), (.call 21 [(.k .non)])])),
  .ret (some (.call 29 [(.v 3), (.lst [(.k (.bl true)), (.k (.bl false)), (.k (.bl false)), (.k (.bl false)), (.k (.bl true)), (.k (.bl false)), (.k (.bl false)), (.k (.bl true)), (.k (.bl true)), (.k (.bl false)), (.k (.bl false)), (.k (.bl false))])]))]⟩
/-- law: [("script" : PySem.Str), ("cup" : PySem.Str), ("s" : PySem.Str), ("t" : PySem.Str), ("told" : PySem.Str), ("due" : PySem.Str), ("full" : PySem.Str), ("turn" : PySem.Str)] -/
def b39 : FnI := ⟨1, 8, false, [
  .asg (.n 1) (.call 25 [(.v 0)]),
  .asg (.t [(.n 2), (.n 3)]) (.tup [(.tup [(.tup [(.k (.int 2)), (.tup [])]), (.k (.int 2)), (.tup [(.tup [(.k (.int 0)), (.k (.int 1))]), (.tup [(.k (.int 1)), (.k (.int 0))])])]), (.tup [(.tup [(.k (.int 2)), (.tup [])]), (.k (.int 2)), (.tup [])])]),
  .asg (.n 4) (.lst [(.call 22 [(.v 2), (.tup [(.tup [(.k (.str ("read" : PySem.Str)))]), (.tup [(.k (.str ("row" : PySem.Str)))]), (.tup [(.k (.str ("word" : PySem.Str))), (.k (.int 0))])])]), (.call 22 [(.v 2), (.tup [(.tup [(.k (.str ("log" : PySem.Str)))])])]), (.call 22 [(.v 2), (.tup [(.tup [(.k (.str ("row" : PySem.Str)))]), (.tup [(.k (.str ("row" : PySem.Str)))])])]), (.call 22 [(.v 2), (.tup [(.tup [(.k (.str ("word" : PySem.Str))), (.k (.int 2))])])]), (.call 24 [(.v 2), (.tup [(.k (.str ("axis" : PySem.Str)))])])]),
  .asg (.n 5) (.lst [(.k .non), (.tup [(.k (.int 0)), (.k (.str ("need" : PySem.Str))), (.tup [(.k (.str ("row" : PySem.Str)))])]), (.tup [(.k (.int 1)), (.k (.str ("twice" : PySem.Str)))]), (.tup [(.k (.int 0)), (.k (.str ("none" : PySem.Str)))]), (.tup [(.tup [(.k (.str ("row" : PySem.Str)))]), (.tup [(.k (.str ("axis" : PySem.Str)))])])]),
  .asg (.n 4) (.bin .add (.v 4) (.lst [(.sl (.call 23 [(.v 2)]) (some (.k (.int 4))) none), (.call 22 [(.v 2), (.tup [(.tup [(.k (.str ("check" : PySem.Str)))])])]), (.call 24 [(.v 3), (.tup [(.k (.str ("check" : PySem.Str)))])]), (.call 22 [(.v 2), (.tup [(.tup [(.k (.str ("row" : PySem.Str)))]), (.tup [(.k (.str ("check" : PySem.Str)))])])]), (.call 22 [(.v 3), (.tup [(.tup [(.k (.str ("row" : PySem.Str)))]), (.tup [(.k (.str ("axis" : PySem.Str)))]), (.tup [(.k (.str ("word" : PySem.Str))), (.k (.int 0))]), (.tup [(.k (.str ("word" : PySem.Str))), (.k (.int 0))])])])])),
  .asg (.n 5) (.bin .add (.v 5) (.lst [(.tup [(.tup [(.k (.str ("axis" : PySem.Str)))]), (.tup [(.k (.str ("word" : PySem.Str))), (.k (.int 0))]), (.tup [(.k (.str ("word" : PySem.Str))), (.k (.int 1))]), (.tup [(.k (.str ("check" : PySem.Str)))])]), (.tup [(.k (.int 0)), (.k (.str ("need" : PySem.Str))), (.tup [(.k (.str ("axis" : PySem.Str)))])]), (.tup [(.tup [(.k (.str ("row" : PySem.Str)))]), (.tup [(.k (.str ("axis" : PySem.Str)))]), (.tup [(.k (.str ("least" : PySem.Str)))]), (.tup [(.k (.str ("log" : PySem.Str)))]), (.tup [(.k (.str ("read" : PySem.Str)))]), (.tup [(.k (.str ("check" : PySem.Str)))])]), (.tup [(.k (.int 1)), (.k (.str ("need" : PySem.Str))), (.tup [(.k (.str ("axis" : PySem.Str)))])]), (.tup [(.k (.int 2)), (.k (.str ("none" : PySem.Str)))])])),
  .asg (.n 6) (.call 23 [(.v 2)]),
  .asg (.n 4) (.bin .add (.v 4) (.lst [(.call 22 [(.v 2), (.bin .add (.sl (.v 6) none (some (.k (.int 2)))) (.sl (.v 6) (some (.k (.int 3))) none))]), (.call 22 [(.v 2), (.bin .add (.sl (.v 6) none (some (.k (.int 5)))) (.sl (.v 6) (some (.k (.int 6))) none))]), (.call 22 [(.v 2), (.tup [(.tup [(.k (.str ("log" : PySem.Str)))]), (.tup [(.k (.str ("log" : PySem.Str)))])])]), (.call 22 [(.v 2), (.tup [])])])),
  .asg (.n 5) (.bin .add (.v 5) (.lst [(.tup [(.k (.int 2)), (.k (.str ("need" : PySem.Str))), (.tup [(.k (.str ("row" : PySem.Str)))])]), (.tup [(.k (.int 6)), (.k (.str ("need" : PySem.Str))), (.tup [(.k (.str ("word" : PySem.Str))), (.k (.int 0))])]), (.tup [(.k (.int 0)), (.k (.str ("need" : PySem.Str))), (.tup [(.k (.str ("row" : PySem.Str)))])]), (.k .non)])),
  .ite (.or (.nt (.call 29 [(.v 4), (.v 5)])) (.nt (.call 38 []))) [
    .ret (some (.k (.bl false)))] [],
  .for_ (.n 7) (.rng none (.k (.int 8))) [
    .ite (.nt (.call 37 [(.v 1), (.call 30 [(.v 1)])])) [
      .ret (some (.k (.bl false)))] []],
  .ret (some (.k (.bl true)))]⟩
def Gl : List (Option FnI) := [some b0, some b1, some b2, some b3, some b4, some b5, some b6, some b7, some b8, some b9, some b10, some b11, some b12, some b13, some b14, some b15, some b16, some b17, some b18, some b19, some b20, some b21, some b22, some b23, some b24, some b25, some b26, some b27, some b28, some b29, some b30, some b31, some b32, some b33, some b34, some b35, none, some b37, some b38, some b39]
def Ll : List (Option ClI) := [none, none, none, none, none, none, none, none, none, none, none, none, none, none, none, none, none, none, none, none, none, none, none, none, none, none, none, none, none, none, none, none, none, none, none, none, some b36, none, none, none]
def tf : List He.Defn := [(("_law_right" : PySem.Str), none), (("_law_errors" : PySem.Str), none)]
end K47
end
section
set_option Elab.async false
set_option linter.all false
set_option maxRecDepth 100000
set_option maxHeartbeats 0
open PySem PySem.Spec PyProof.Rows L2
namespace K47
open IT (GV)
def gt : List ((Nat × Nat) × Bool) := [((40,40),true),((40,41),false),((40,42),false),((40,43),false),((40,44),false),((41,40),true),((41,41),true),((41,42),false),((41,43),false),((41,44),false),((42,40),true),((42,41),false),((42,42),true),((42,43),false),((42,44),false),((43,40),true),((43,41),false),((43,42),false),((43,43),true),((43,44),false),((44,40),true),((44,41),false),((44,42),false),((44,43),false),((44,44),true)]
def rzl : List Nat := [41, 42, 43, 44]
end K47
namespace K47
abbrev prg : Program := PySem.Challenge.pw_linessummed_k47_whole_codes
def defsOf (b : List Stmt) : List He.DefD := b.filterMap fun
  | .FunctionDef n a b _ _ _ sc _ _ _ => some ⟨(n, none), n, n, a, b, sc, [], []⟩
  | _ => none
def fn : List He.DefD := defsOf prg.main.body
def dd (i : Nat) : He.DefD := fn.getD i ⟨(⟨#[]⟩, none), ⟨#[]⟩, ⟨#[]⟩, ⟨[], [], none, [], [], none, []⟩, [], default, [], []⟩
def rr (i : Nat) : IT.Row := rows.getD i ⟨[], [], false, []⟩
def LL : IT.LD := ⟨fn, rows, cls, gl, gt, rzl, tf, Gl, Ll⟩
theorem rw0 : IT.RowOk LL.GG LL.rzB (dd 0) (rr 0) b0 := ⟨⟨rfl, rfl, rfl, by decide +kernel, rfl, by decide +kernel, by decide +kernel⟩, rfl, rfl, by kernel_rfl, fun _ _ _ _ _ _ us hl => match us, hl with | [_, _, _], _ => rfl⟩
theorem rw1 : IT.RowOk LL.GG LL.rzB (dd 1) (rr 1) b1 := ⟨⟨rfl, rfl, rfl, by decide +kernel, rfl, by decide +kernel, by decide +kernel⟩, rfl, rfl, by kernel_rfl, fun _ _ _ _ _ _ us hl => match us, hl with | [_, _, _], _ => rfl⟩
theorem rw2 : IT.RowOk LL.GG LL.rzB (dd 2) (rr 2) b2 := ⟨⟨rfl, rfl, rfl, by decide +kernel, rfl, by decide +kernel, by decide +kernel⟩, rfl, rfl, by kernel_rfl, fun _ _ _ _ _ _ us hl => match us, hl with | [_], _ => rfl⟩
theorem rw3 : IT.RowOk LL.GG LL.rzB (dd 3) (rr 3) b3 := ⟨⟨rfl, rfl, rfl, by decide +kernel, rfl, by decide +kernel, by decide +kernel⟩, rfl, rfl, by kernel_rfl, fun _ _ _ _ _ _ us hl => match us, hl with | [_], _ => rfl⟩
theorem rw4 : IT.RowOk LL.GG LL.rzB (dd 4) (rr 4) b4 := ⟨⟨rfl, rfl, rfl, by decide +kernel, rfl, by decide +kernel, by decide +kernel⟩, rfl, rfl, by kernel_rfl, fun _ _ _ _ _ _ us hl => match us, hl with | [_, _], _ => rfl⟩
theorem rw5 : IT.RowOk LL.GG LL.rzB (dd 5) (rr 5) b5 := ⟨⟨rfl, rfl, rfl, by decide +kernel, rfl, by decide +kernel, by decide +kernel⟩, rfl, rfl, by kernel_rfl, fun _ _ _ _ _ _ us hl => match us, hl with | [_, _], _ => rfl⟩
theorem rw6 : IT.RowOk LL.GG LL.rzB (dd 6) (rr 6) b6 := ⟨⟨rfl, rfl, rfl, by decide +kernel, rfl, by decide +kernel, by decide +kernel⟩, rfl, rfl, by kernel_rfl, fun _ _ _ _ _ _ us hl => match us, hl with | [_, _], _ => rfl⟩
theorem rw7 : IT.RowOk LL.GG LL.rzB (dd 7) (rr 7) b7 := ⟨⟨rfl, rfl, rfl, by decide +kernel, rfl, by decide +kernel, by decide +kernel⟩, rfl, rfl, by kernel_rfl, fun _ _ _ _ _ _ us hl => match us, hl with | [_], _ => rfl⟩
theorem rw8 : IT.RowOk LL.GG LL.rzB (dd 8) (rr 8) b8 := ⟨⟨rfl, rfl, rfl, by decide +kernel, rfl, by decide +kernel, by decide +kernel⟩, rfl, rfl, by kernel_rfl, fun _ _ _ _ _ _ us hl => match us, hl with | [_, _], _ => rfl⟩
theorem rw9 : IT.RowOk LL.GG LL.rzB (dd 9) (rr 9) b9 := ⟨⟨rfl, rfl, rfl, by decide +kernel, rfl, by decide +kernel, by decide +kernel⟩, rfl, rfl, by kernel_rfl, fun _ _ _ _ _ _ us hl => match us, hl with | [_, _], _ => rfl⟩
theorem rw10 : IT.RowOk LL.GG LL.rzB (dd 10) (rr 10) b10 := ⟨⟨rfl, rfl, rfl, by decide +kernel, rfl, by decide +kernel, by decide +kernel⟩, rfl, rfl, by kernel_rfl, fun _ _ _ _ _ _ us hl => match us, hl with | [_], _ => rfl⟩
theorem rw11 : IT.RowOk LL.GG LL.rzB (dd 11) (rr 11) b11 := ⟨⟨rfl, rfl, rfl, by decide +kernel, rfl, by decide +kernel, by decide +kernel⟩, rfl, rfl, by kernel_rfl, fun _ _ _ _ _ _ us hl => match us, hl with | [_], _ => rfl⟩
theorem rw12 : IT.RowOk LL.GG LL.rzB (dd 12) (rr 12) b12 := ⟨⟨rfl, rfl, rfl, by decide +kernel, rfl, by decide +kernel, by decide +kernel⟩, rfl, rfl, by kernel_rfl, fun _ _ _ _ _ _ us hl => match us, hl with | [_], _ => rfl⟩
theorem rw13 : IT.RowOk LL.GG LL.rzB (dd 13) (rr 13) b13 := ⟨⟨rfl, rfl, rfl, by decide +kernel, rfl, by decide +kernel, by decide +kernel⟩, rfl, rfl, by kernel_rfl, fun _ _ _ _ _ _ us hl => match us, hl with | [_], _ => rfl⟩
theorem rw14 : IT.RowOk LL.GG LL.rzB (dd 14) (rr 14) b14 := ⟨⟨rfl, rfl, rfl, by decide +kernel, rfl, by decide +kernel, by decide +kernel⟩, rfl, rfl, by kernel_rfl, fun _ _ _ _ _ _ us hl => match us, hl with | [_], _ => rfl⟩
theorem rw15 : IT.RowOk LL.GG LL.rzB (dd 15) (rr 15) b15 := ⟨⟨rfl, rfl, rfl, by decide +kernel, rfl, by decide +kernel, by decide +kernel⟩, rfl, rfl, by kernel_rfl, fun _ _ _ _ _ _ us hl => match us, hl with | [_], _ => rfl⟩
theorem rw16 : IT.RowOk LL.GG LL.rzB (dd 16) (rr 16) b16 := ⟨⟨rfl, rfl, rfl, by decide +kernel, rfl, by decide +kernel, by decide +kernel⟩, rfl, rfl, by kernel_rfl, fun _ _ _ _ _ _ us hl => match us, hl with | [_], _ => rfl⟩
theorem rw17 : IT.RowOk LL.GG LL.rzB (dd 17) (rr 17) b17 := ⟨⟨rfl, rfl, rfl, by decide +kernel, rfl, by decide +kernel, by decide +kernel⟩, rfl, rfl, by kernel_rfl, fun _ _ _ _ _ _ us hl => match us, hl with | [_, _], _ => rfl⟩
theorem rw18 : IT.RowOk LL.GG LL.rzB (dd 18) (rr 18) b18 := ⟨⟨rfl, rfl, rfl, by decide +kernel, rfl, by decide +kernel, by decide +kernel⟩, rfl, rfl, by kernel_rfl, fun _ _ _ _ _ _ us hl => match us, hl with | [_, _, _], _ => rfl⟩
theorem rw19 : IT.RowOk LL.GG LL.rzB (dd 19) (rr 19) b19 := ⟨⟨rfl, rfl, rfl, by decide +kernel, rfl, by decide +kernel, by decide +kernel⟩, rfl, rfl, by kernel_rfl, fun _ _ _ _ _ _ us hl => match us, hl with | [_, _], _ => rfl⟩
theorem rw20 : IT.RowOk LL.GG LL.rzB (dd 20) (rr 20) b20 := ⟨⟨rfl, rfl, rfl, by decide +kernel, rfl, by decide +kernel, by decide +kernel⟩, rfl, rfl, by kernel_rfl, fun _ _ _ _ _ _ us hl => match us, hl with | [_], _ => rfl⟩
theorem rw21 : IT.RowOk LL.GG LL.rzB (dd 21) (rr 21) b21 := ⟨⟨rfl, rfl, rfl, by decide +kernel, rfl, by decide +kernel, by decide +kernel⟩, rfl, rfl, by kernel_rfl, fun _ _ _ _ _ _ us hl => match us, hl with | [_], _ => rfl⟩
theorem rw22 : IT.RowOk LL.GG LL.rzB (dd 22) (rr 22) b22 := ⟨⟨rfl, rfl, rfl, by decide +kernel, rfl, by decide +kernel, by decide +kernel⟩, rfl, rfl, by kernel_rfl, fun _ _ _ _ _ _ us hl => match us, hl with | [_, _], _ => rfl⟩
theorem rw23 : IT.RowOk LL.GG LL.rzB (dd 23) (rr 23) b23 := ⟨⟨rfl, rfl, rfl, by decide +kernel, rfl, by decide +kernel, by decide +kernel⟩, rfl, rfl, by kernel_rfl, fun _ _ _ _ _ _ us hl => match us, hl with | [_], _ => rfl⟩
theorem rw24 : IT.RowOk LL.GG LL.rzB (dd 24) (rr 24) b24 := ⟨⟨rfl, rfl, rfl, by decide +kernel, rfl, by decide +kernel, by decide +kernel⟩, rfl, rfl, by kernel_rfl, fun _ _ _ _ _ _ us hl => match us, hl with | [_, _], _ => rfl⟩
theorem rw25 : IT.RowOk LL.GG LL.rzB (dd 25) (rr 25) b25 := ⟨⟨rfl, rfl, rfl, by decide +kernel, rfl, by decide +kernel, by decide +kernel⟩, rfl, rfl, by kernel_rfl, fun _ _ _ _ _ _ us hl => match us, hl with | [_], _ => rfl⟩
theorem rw26 : IT.RowOk LL.GG LL.rzB (dd 26) (rr 26) b26 := ⟨⟨rfl, rfl, rfl, by decide +kernel, rfl, by decide +kernel, by decide +kernel⟩, rfl, rfl, by kernel_rfl, fun _ _ _ _ _ _ us hl => match us, hl with | [_, _], _ => rfl⟩
theorem rw27 : IT.RowOk LL.GG LL.rzB (dd 27) (rr 27) b27 := ⟨⟨rfl, rfl, rfl, by decide +kernel, rfl, by decide +kernel, by decide +kernel⟩, rfl, rfl, by kernel_rfl, fun _ _ _ _ _ _ us hl => match us, hl with | [_, _], _ => rfl⟩
theorem rw28 : IT.RowOk LL.GG LL.rzB (dd 28) (rr 28) b28 := ⟨⟨rfl, rfl, rfl, by decide +kernel, rfl, by decide +kernel, by decide +kernel⟩, rfl, rfl, by kernel_rfl, fun _ _ _ _ _ _ us hl => match us, hl with | [_], _ => rfl⟩
theorem rw29 : IT.RowOk LL.GG LL.rzB (dd 29) (rr 29) b29 := ⟨⟨rfl, rfl, rfl, by decide +kernel, rfl, by decide +kernel, by decide +kernel⟩, rfl, rfl, by kernel_rfl, fun _ _ _ _ _ _ us hl => match us, hl with | [_, _], _ => rfl⟩
theorem rw30 : IT.RowOk LL.GG LL.rzB (dd 30) (rr 30) b30 := ⟨⟨rfl, rfl, rfl, by decide +kernel, rfl, by decide +kernel, by decide +kernel⟩, rfl, rfl, by kernel_rfl, fun _ _ _ _ _ _ us hl => match us, hl with | [_], _ => rfl⟩
theorem rw31 : IT.RowOk LL.GG LL.rzB (dd 31) (rr 31) b31 := ⟨⟨rfl, rfl, rfl, by decide +kernel, rfl, by decide +kernel, by decide +kernel⟩, rfl, rfl, by kernel_rfl, fun _ _ _ _ _ _ us hl => match us, hl with | [_], _ => rfl⟩
theorem rw32 : IT.RowOk LL.GG LL.rzB (dd 32) (rr 32) b32 := ⟨⟨rfl, rfl, rfl, by decide +kernel, rfl, by decide +kernel, by decide +kernel⟩, rfl, rfl, by kernel_rfl, fun _ _ _ _ _ _ us hl => match us, hl with | [_], _ => rfl⟩
theorem rw33 : IT.RowOk LL.GG LL.rzB (dd 33) (rr 33) b33 := ⟨⟨rfl, rfl, rfl, by decide +kernel, rfl, by decide +kernel, by decide +kernel⟩, rfl, rfl, by kernel_rfl, fun _ _ _ _ _ _ us hl => match us, hl with | [_, _], _ => rfl⟩
theorem rw34 : IT.RowOk LL.GG LL.rzB (dd 34) (rr 34) b34 := ⟨⟨rfl, rfl, rfl, by decide +kernel, rfl, by decide +kernel, by decide +kernel⟩, rfl, rfl, by kernel_rfl, fun _ _ _ _ _ _ us hl => match us, hl with | [_, _], _ => rfl⟩
theorem rw35 : IT.RowOk LL.GG LL.rzB (dd 35) (rr 35) b35 := ⟨⟨rfl, rfl, rfl, by decide +kernel, rfl, by decide +kernel, by decide +kernel⟩, rfl, rfl, by kernel_rfl, fun _ _ _ _ _ _ us hl => match us, hl with | [_, _], _ => rfl⟩
theorem cl36 : IT.ClRow LL.GG (dd 36) (rr 36) b36 := ⟨⟨rfl, rfl, rfl, by decide +kernel, rfl, by decide +kernel, by decide +kernel⟩, rfl, rfl, fun _ _ _ _ _ _ us hl => match us, hl with | [_], _ => rfl, _, _, _, _, _, _, _, _, _, _, _, _, _, rfl, rfl, rfl, rfl, rfl, rfl, rfl, rfl, rfl, by kernel_rfl, by kernel_rfl⟩
theorem rw37 : IT.RowOk LL.GG LL.rzB (dd 37) (rr 37) b37 := ⟨⟨rfl, rfl, rfl, by decide +kernel, rfl, by decide +kernel, by decide +kernel⟩, rfl, rfl, by kernel_rfl, fun _ _ _ _ _ _ us hl => match us, hl with | [_, _], _ => rfl⟩
theorem rw38 : IT.RowOk LL.GG LL.rzB (dd 38) (rr 38) b38 := ⟨⟨rfl, rfl, rfl, by decide +kernel, rfl, by decide +kernel, by decide +kernel⟩, rfl, rfl, by kernel_rfl, fun _ _ _ _ _ _ us hl => match us, hl with | [], _ => rfl⟩
theorem rw39 : IT.RowOk LL.GG LL.rzB (dd 39) (rr 39) b39 := ⟨⟨rfl, rfl, rfl, by decide +kernel, rfl, by decide +kernel, by decide +kernel⟩, rfl, rfl, by kernel_rfl, fun _ _ _ _ _ _ us hl => match us, hl with | [_], _ => rfl⟩
theorem ok : LL.Ok where
  at_ := fun d hd => by
    have h : (fn.all fun d => decide (d.at_ = (d.name, none)) && decide (d.qual = d.name) && d.dfl.isEmpty && d.kwd.isEmpty) = true := by kernel_rfl
    have q := List.all_eq_true.mp h d hd
    simp only [Bool.and_eq_true, decide_eq_true_eq, List.isEmpty_iff] at q
    exact ⟨q.1.1.1, q.1.1.2, q.1.2, q.2⟩
  rw := fun i f h => by
    match i, h with
    | 0, h => cases h; exact ⟨dd 0, rr 0, by kernel_rfl, rfl, rw0⟩
    | 1, h => cases h; exact ⟨dd 1, rr 1, by kernel_rfl, rfl, rw1⟩
    | 2, h => cases h; exact ⟨dd 2, rr 2, by kernel_rfl, rfl, rw2⟩
    | 3, h => cases h; exact ⟨dd 3, rr 3, by kernel_rfl, rfl, rw3⟩
    | 4, h => cases h; exact ⟨dd 4, rr 4, by kernel_rfl, rfl, rw4⟩
    | 5, h => cases h; exact ⟨dd 5, rr 5, by kernel_rfl, rfl, rw5⟩
    | 6, h => cases h; exact ⟨dd 6, rr 6, by kernel_rfl, rfl, rw6⟩
    | 7, h => cases h; exact ⟨dd 7, rr 7, by kernel_rfl, rfl, rw7⟩
    | 8, h => cases h; exact ⟨dd 8, rr 8, by kernel_rfl, rfl, rw8⟩
    | 9, h => cases h; exact ⟨dd 9, rr 9, by kernel_rfl, rfl, rw9⟩
    | 10, h => cases h; exact ⟨dd 10, rr 10, by kernel_rfl, rfl, rw10⟩
    | 11, h => cases h; exact ⟨dd 11, rr 11, by kernel_rfl, rfl, rw11⟩
    | 12, h => cases h; exact ⟨dd 12, rr 12, by kernel_rfl, rfl, rw12⟩
    | 13, h => cases h; exact ⟨dd 13, rr 13, by kernel_rfl, rfl, rw13⟩
    | 14, h => cases h; exact ⟨dd 14, rr 14, by kernel_rfl, rfl, rw14⟩
    | 15, h => cases h; exact ⟨dd 15, rr 15, by kernel_rfl, rfl, rw15⟩
    | 16, h => cases h; exact ⟨dd 16, rr 16, by kernel_rfl, rfl, rw16⟩
    | 17, h => cases h; exact ⟨dd 17, rr 17, by kernel_rfl, rfl, rw17⟩
    | 18, h => cases h; exact ⟨dd 18, rr 18, by kernel_rfl, rfl, rw18⟩
    | 19, h => cases h; exact ⟨dd 19, rr 19, by kernel_rfl, rfl, rw19⟩
    | 20, h => cases h; exact ⟨dd 20, rr 20, by kernel_rfl, rfl, rw20⟩
    | 21, h => cases h; exact ⟨dd 21, rr 21, by kernel_rfl, rfl, rw21⟩
    | 22, h => cases h; exact ⟨dd 22, rr 22, by kernel_rfl, rfl, rw22⟩
    | 23, h => cases h; exact ⟨dd 23, rr 23, by kernel_rfl, rfl, rw23⟩
    | 24, h => cases h; exact ⟨dd 24, rr 24, by kernel_rfl, rfl, rw24⟩
    | 25, h => cases h; exact ⟨dd 25, rr 25, by kernel_rfl, rfl, rw25⟩
    | 26, h => cases h; exact ⟨dd 26, rr 26, by kernel_rfl, rfl, rw26⟩
    | 27, h => cases h; exact ⟨dd 27, rr 27, by kernel_rfl, rfl, rw27⟩
    | 28, h => cases h; exact ⟨dd 28, rr 28, by kernel_rfl, rfl, rw28⟩
    | 29, h => cases h; exact ⟨dd 29, rr 29, by kernel_rfl, rfl, rw29⟩
    | 30, h => cases h; exact ⟨dd 30, rr 30, by kernel_rfl, rfl, rw30⟩
    | 31, h => cases h; exact ⟨dd 31, rr 31, by kernel_rfl, rfl, rw31⟩
    | 32, h => cases h; exact ⟨dd 32, rr 32, by kernel_rfl, rfl, rw32⟩
    | 33, h => cases h; exact ⟨dd 33, rr 33, by kernel_rfl, rfl, rw33⟩
    | 34, h => cases h; exact ⟨dd 34, rr 34, by kernel_rfl, rfl, rw34⟩
    | 35, h => cases h; exact ⟨dd 35, rr 35, by kernel_rfl, rfl, rw35⟩
    | 36, h => cases h
    | 37, h => cases h; exact ⟨dd 37, rr 37, by kernel_rfl, rfl, rw37⟩
    | 38, h => cases h; exact ⟨dd 38, rr 38, by kernel_rfl, rfl, rw38⟩
    | 39, h => cases h; exact ⟨dd 39, rr 39, by kernel_rfl, rfl, rw39⟩
    | i + 40, h => cases h
  cl := fun i l h => by
    match i, h with
    | 0, h => cases h
    | 1, h => cases h
    | 2, h => cases h
    | 3, h => cases h
    | 4, h => cases h
    | 5, h => cases h
    | 6, h => cases h
    | 7, h => cases h
    | 8, h => cases h
    | 9, h => cases h
    | 10, h => cases h
    | 11, h => cases h
    | 12, h => cases h
    | 13, h => cases h
    | 14, h => cases h
    | 15, h => cases h
    | 16, h => cases h
    | 17, h => cases h
    | 18, h => cases h
    | 19, h => cases h
    | 20, h => cases h
    | 21, h => cases h
    | 22, h => cases h
    | 23, h => cases h
    | 24, h => cases h
    | 25, h => cases h
    | 26, h => cases h
    | 27, h => cases h
    | 28, h => cases h
    | 29, h => cases h
    | 30, h => cases h
    | 31, h => cases h
    | 32, h => cases h
    | 33, h => cases h
    | 34, h => cases h
    | 35, h => cases h
    | 36, h => cases h; exact ⟨dd 36, rr 36, by kernel_rfl, rfl, cl36⟩
    | 37, h => cases h
    | 38, h => cases h
    | 39, h => cases h
    | i + 40, h => cases h
  lam := fun i d r hd hr hl => by
    have h : ((List.range rows.length).all fun i => match fn[i]?, rows[i]? with
      | some d, some r => !r.lam || tf.contains (d.name, none)
      | _, _ => true) = true := by kernel_rfl
    have hi : i < rows.length := (List.getElem?_eq_some_iff.mp hr).1
    have q := List.all_eq_true.mp h i (List.mem_range.mpr hi)
    have hd' : fn[i]? = some d := hd
    have hr' : rows[i]? = some r := hr
    rw [hd', hr'] at q
    simp only [hl, Bool.not_true, Bool.false_or] at q
    exact List.contains_iff_mem.mp q
  tf := fun p hp => by
    have h : (tf.all fun p => decide (p.2 = none)) = true := by kernel_rfl
    exact of_decide_eq_true (List.all_eq_true.mp h p hp)
abbrev R : PySem.W.OpenRow := PySem.W.OpenLaw.row PySem.Challenge.rw_linessummed_k47_whole_codes
abbrev hk : PySem.W.Hook := He.hookX 4 [] fn [] tf LL.exK
def ob (s : PySem.W.SharedT) : He.AlX := He.obsX 4 [] fn [] tf LL.exK (HandSHeadRun.getT s)
theorem ob_eq (s : PySem.W.SharedT) : ob s = hk.obs s.abs := He.obsX_eq (HandSHeadRun.getT_eq s)
abbrev qv : Program := PySem.W.view R.prog [0, 63]
def loose : List PySem.Str := (prg.main.body.filterMap fun
  | .FunctionDef n _ _ _ _ _ _ _ _ _ => some n
  | .ClassDef n .. => some n
  | .Assign [.Name x _] _ _ => some x
  | _ => none).filter fun x => decide (x ≠ ("__name__" : PySem.Str)) && decide (x ≠ ("law" : PySem.Str))
theorem run (w : World) : HandSHeadRun.RunEqI R qv hk ob 3000 loose w := by
  unfold HandSHeadRun.RunEqI
  kernel_rfl
end K47
end
section
set_option Elab.async false
set_option linter.all false
set_option maxRecDepth 100000
set_option autoImplicit false
namespace K47
open IT
abbrev cl (n : Nat) : Calls := LL.cl n
theorem kn0 (m : Nat) : (cl (m + 1)).kn 0 = true := (rfl)
theorem kn1 (m : Nat) : (cl (m + 1)).kn 1 = true := (rfl)
theorem kn2 (m : Nat) : (cl (m + 1)).kn 2 = true := (rfl)
theorem kn3 (m : Nat) : (cl (m + 1)).kn 3 = true := (rfl)
theorem kn4 (m : Nat) : (cl (m + 1)).kn 4 = true := (rfl)
theorem kn5 (m : Nat) : (cl (m + 1)).kn 5 = true := (rfl)
theorem kn6 (m : Nat) : (cl (m + 1)).kn 6 = true := (rfl)
theorem kn7 (m : Nat) : (cl (m + 1)).kn 7 = true := (rfl)
theorem kn8 (m : Nat) : (cl (m + 1)).kn 8 = true := (rfl)
theorem kn9 (m : Nat) : (cl (m + 1)).kn 9 = true := (rfl)
theorem kn10 (m : Nat) : (cl (m + 1)).kn 10 = true := (rfl)
theorem kn11 (m : Nat) : (cl (m + 1)).kn 11 = true := (rfl)
theorem kn12 (m : Nat) : (cl (m + 1)).kn 12 = true := (rfl)
theorem kn13 (m : Nat) : (cl (m + 1)).kn 13 = true := (rfl)
theorem kn14 (m : Nat) : (cl (m + 1)).kn 14 = true := (rfl)
theorem kn15 (m : Nat) : (cl (m + 1)).kn 15 = true := (rfl)
theorem kn16 (m : Nat) : (cl (m + 1)).kn 16 = true := (rfl)
theorem kn17 (m : Nat) : (cl (m + 1)).kn 17 = true := (rfl)
theorem kn18 (m : Nat) : (cl (m + 1)).kn 18 = true := (rfl)
theorem kn19 (m : Nat) : (cl (m + 1)).kn 19 = true := (rfl)
theorem kn20 (m : Nat) : (cl (m + 1)).kn 20 = true := (rfl)
theorem kn21 (m : Nat) : (cl (m + 1)).kn 21 = true := (rfl)
theorem kn22 (m : Nat) : (cl (m + 1)).kn 22 = true := (rfl)
theorem kn23 (m : Nat) : (cl (m + 1)).kn 23 = true := (rfl)
theorem kn24 (m : Nat) : (cl (m + 1)).kn 24 = true := (rfl)
theorem kn25 (m : Nat) : (cl (m + 1)).kn 25 = true := (rfl)
theorem kn26 (m : Nat) : (cl (m + 1)).kn 26 = true := (rfl)
theorem kn27 (m : Nat) : (cl (m + 1)).kn 27 = true := (rfl)
theorem kn28 (m : Nat) : (cl (m + 1)).kn 28 = true := (rfl)
theorem kn29 (m : Nat) : (cl (m + 1)).kn 29 = true := (rfl)
theorem kn30 (m : Nat) : (cl (m + 1)).kn 30 = true := (rfl)
theorem kn31 (m : Nat) : (cl (m + 1)).kn 31 = true := (rfl)
theorem kn32 (m : Nat) : (cl (m + 1)).kn 32 = true := (rfl)
theorem kn33 (m : Nat) : (cl (m + 1)).kn 33 = true := (rfl)
theorem kn34 (m : Nat) : (cl (m + 1)).kn 34 = true := (rfl)
theorem kn35 (m : Nat) : (cl (m + 1)).kn 35 = true := (rfl)
theorem kn37 (m : Nat) : (cl (m + 1)).kn 37 = true := (rfl)
theorem kn38 (m : Nat) : (cl (m + 1)).kn 38 = true := (rfl)
theorem kn39 (m : Nat) : (cl (m + 1)).kn 39 = true := (rfl)
/-! orders, settings -/
inductive Od where | read | least | row | log | axis | check | w0 | w1 | w2 | w3
  deriving DecidableEq
def en : Od → D
  | .read => .tup [.str ("read" : PySem.Str)]
  | .least => .tup [.str ("least" : PySem.Str)]
  | .row => .tup [.str ("row" : PySem.Str)]
  | .log => .tup [.str ("log" : PySem.Str)]
  | .axis => .tup [.str ("axis" : PySem.Str)]
  | .check => .tup [.str ("check" : PySem.Str)]
  | .w0 => .tup [.str ("word" : PySem.Str), .int 0]
  | .w1 => .tup [.str ("word" : PySem.Str), .int 1]
  | .w2 => .tup [.str ("word" : PySem.Str), .int 2]
  | .w3 => .tup [.str ("word" : PySem.Str), .int 3]
def wds : Nat → List Od
  | 0 => []
  | 1 => [.w0]
  | 2 => [.w0, .w1]
  | _ => [.w0, .w1, .w2]
def stD (w : Nat) : D := .tup [.tup [.int 2, .tup [.tup [.tup [.int 1, .int 1], .tup [.int 0, .int 1]]]], .int 2, .tup ((List.range w).map fun k => .tup (List.replicate k (.int 0)))]
def full (w : Nat) : List Od := [.read, .least, .row, .log, .axis] ++ wds w ++ [.check]
def nd (w : Nat) : Od → Option (List Od)
  | .w0 => if 0 < w then some [] else none
  | .w1 => if 1 < w then some [] else none
  | .w2 => if 2 < w then some [] else none
  | .w3 => if 3 < w then some [] else none
  | .check => some ([.axis, .least, .log, .read, .row] ++ wds w)
  | .log => some [.row]
  | .axis => some [.row]
  | _ => some []
def encL : Option (List Od) → D
  | none => .non
  | some l => .lst (l.map en)
section
variable (c : Cp)
theorem t_order (n : Nat) (o : Od) : (cl (n + 2)).ca 13 [en o] (Cup c []) = .ok (.bl true) (Cup c []) := by
  cases o <;> kernel_rfl
theorem t_needs (n : Nat) (w : Nat) (hw : w < 4) (o : Od) : (cl (n + 2)).ca 17 [stD w, en o] (Cup c []) = .ok (encL (nd w o)) (Cup c []) := by
  match w, hw with
  | 0, _ => cases o <;> kernel_rfl
  | 1, _ => cases o <;> kernel_rfl
  | 2, _ => cases o <;> kernel_rfl
  | 3, _ => cases o <;> kernel_rfl
theorem t_lneeds (n : Nat) (w : Nat) (hw : w < 4) (o : Od) : (cl (n + 2)).ca 33 [stD w, en o] (Cup c []) = .ok (encL (nd w o)) (Cup c []) := by
  match w, hw with
  | 0, _ => cases o <;> kernel_rfl
  | 1, _ => cases o <;> kernel_rfl
  | 2, _ => cases o <;> kernel_rfl
  | 3, _ => cases o <;> kernel_rfl
theorem t_setting (n : Nat) (w : Nat) (hw : w < 4) : (cl (n + 7)).ca 12 [stD w] (Cup c []) = .ok .non (Cup c []) := by
  match w, hw with
  | 0, _ => kernel_rfl
  | 1, _ => kernel_rfl
  | 2, _ => kernel_rfl
  | 3, _ => kernel_rfl
end
end K47
end
section
set_option Elab.async false
set_option linter.all false
set_option maxRecDepth 100000
set_option autoImplicit false
/-! what the law's own common defs compute -/
namespace K47
open IT
section
variable {n : Nat} {S : Sto}
theorem s_sort_non (h : GoodS S) : (cl (n + 1)).ca 28 [.non] S = .ok (.int 0) S := by
  rw [ca_x (f := b28) rfl (by decide +kernel) (by decide +kernel) rfl rfl]
  simp only [b28, evx_v, evx_k, evx_g, evx_bin, evx_cmp, evx_chn, evx_neg, evx_nt, evx_and, evx_or, evx_ite, evx_tup, evx_lst, evx_nlst, evx_ix, evx_sl, evx_rev, evx_app, evx_join, evx_call, evx_callv, evx_lam, evx_bi, evx_isi, exx_asg, exx_setix, exx_ex, exx_ite, exx_ret, exx_ret0, exx_brk, exx_cnt, exx_pas, exx_rai, Y.b_ok, Y.b_ex, Y.o_ok, Y.o_ex, Y.e_nil, Y.e_cons, Y.eo_none, Y.eo_some, Y.s_nil, Y.s_cons, Y.t_bl, Y.t_int, Y.t_tup, Y.t_lst, Y.t_non, Y.x_and, Y.x_or, Y.x_nt, Y.x_v, Y.x_k, Y.x_cmp, Y.x_chn, Y.x_call, Y.x_callv, Y.x_bi, Y.x_isi, Y.x_exi, Y.x_ix, Y.x_bin, Y.p_n, Y.p_t, Y.p_tl, Y.ps_cons, Y.ps_nil, Y.i_v, Y.i_ix, Y.i_tup, Y.i_lst, Y.i_k, Y.i_bin, Y.i_call, Y.i_sl, Y.i_rev, Y.i_lc, Y.i_rng, Y.i_rng2, Y.i_zip, Y.i_enum, Y.q_t, Y.q_l, Y.q_z, Y.q_zt, Y.q_e, Y.sz, Y.a_int, Y.a_tup, Y.a_lst, Y.su_int, Y.mo_int, Y.mu_intR, Y.mu_intL, Y.fd_intS, Y.po_int, Y.c_lt, Y.c_le, Y.c_gt, Y.c_ge, Y.cc_le, Y.cc_lt, Y.c_isn_n, Y.c_isn_b, Y.c_isn_i, Y.c_isn_s, Y.c_isn_t, Y.c_isn_l, Y.c_nisn_n, Y.c_nisn_b, Y.c_nisn_i, Y.c_nisn_s, Y.c_nisn_t, Y.c_nisn_l, Y.c_eq, Y.c_ne, Y.n_tup, Y.n_lst, Y.n_int, Y.n_abs, Y.n_tt, Y.n_tl, Y.n_lt, Y.n_ll, Y.n_gcd, Y.ix_t0, Y.ix_t1, Y.ix_t2, Y.ix_l0, Y.ix_l1, Y.l_tup, Y.l_lst, Y.r_tup, Y.r_lst, List.map_cons, List.map_nil, List.cons_append, List.nil_append, List.replicate, List.getElem?_cons_zero, List.getElem?_cons_succ, List.length_cons, List.length_nil, List.set_cons_zero, List.set_cons_succ, if_true, Bool.false_eq_true, if_false, Bool.not_true, Bool.not_false, Nat.reduceLeDiff, Nat.reduceAdd, IT.is_int_int, IT.is_int_bool, IT.is_int_tuple, IT.is_int_list, IT.is_int_str, IT.is_bl_int, IT.is_bl_bool, IT.is_bl_tuple, IT.is_bl_list, IT.is_bl_str, IT.is_str_int, IT.is_str_bool, IT.is_str_tuple, IT.is_str_list, IT.is_str_str, IT.is_tup_int, IT.is_tup_bool, IT.is_tup_tuple, IT.is_tup_list, IT.is_tup_str, IT.is_lst_int, IT.is_lst_bool, IT.is_lst_tuple, IT.is_lst_list, IT.is_lst_str, IT.is_non_int, IT.is_non_bool, IT.is_non_tuple, IT.is_non_list, IT.is_non_str]
  exact end_rt (d := .int _) h rfl
theorem s_sort_bl (h : GoodS S) (b : Bool) : (cl (n + 1)).ca 28 [.bl b] S = .ok (.int 1) S := by
  rw [ca_x (f := b28) rfl (by decide +kernel) (by decide +kernel) rfl rfl]
  simp only [b28, evx_v, evx_k, evx_g, evx_bin, evx_cmp, evx_chn, evx_neg, evx_nt, evx_and, evx_or, evx_ite, evx_tup, evx_lst, evx_nlst, evx_ix, evx_sl, evx_rev, evx_app, evx_join, evx_call, evx_callv, evx_lam, evx_bi, evx_isi, exx_asg, exx_setix, exx_ex, exx_ite, exx_ret, exx_ret0, exx_brk, exx_cnt, exx_pas, exx_rai, Y.b_ok, Y.b_ex, Y.o_ok, Y.o_ex, Y.e_nil, Y.e_cons, Y.eo_none, Y.eo_some, Y.s_nil, Y.s_cons, Y.t_bl, Y.t_int, Y.t_tup, Y.t_lst, Y.t_non, Y.x_and, Y.x_or, Y.x_nt, Y.x_v, Y.x_k, Y.x_cmp, Y.x_chn, Y.x_call, Y.x_callv, Y.x_bi, Y.x_isi, Y.x_exi, Y.x_ix, Y.x_bin, Y.p_n, Y.p_t, Y.p_tl, Y.ps_cons, Y.ps_nil, Y.i_v, Y.i_ix, Y.i_tup, Y.i_lst, Y.i_k, Y.i_bin, Y.i_call, Y.i_sl, Y.i_rev, Y.i_lc, Y.i_rng, Y.i_rng2, Y.i_zip, Y.i_enum, Y.q_t, Y.q_l, Y.q_z, Y.q_zt, Y.q_e, Y.sz, Y.a_int, Y.a_tup, Y.a_lst, Y.su_int, Y.mo_int, Y.mu_intR, Y.mu_intL, Y.fd_intS, Y.po_int, Y.c_lt, Y.c_le, Y.c_gt, Y.c_ge, Y.cc_le, Y.cc_lt, Y.c_isn_n, Y.c_isn_b, Y.c_isn_i, Y.c_isn_s, Y.c_isn_t, Y.c_isn_l, Y.c_nisn_n, Y.c_nisn_b, Y.c_nisn_i, Y.c_nisn_s, Y.c_nisn_t, Y.c_nisn_l, Y.c_eq, Y.c_ne, Y.n_tup, Y.n_lst, Y.n_int, Y.n_abs, Y.n_tt, Y.n_tl, Y.n_lt, Y.n_ll, Y.n_gcd, Y.ix_t0, Y.ix_t1, Y.ix_t2, Y.ix_l0, Y.ix_l1, Y.l_tup, Y.l_lst, Y.r_tup, Y.r_lst, List.map_cons, List.map_nil, List.cons_append, List.nil_append, List.replicate, List.getElem?_cons_zero, List.getElem?_cons_succ, List.length_cons, List.length_nil, List.set_cons_zero, List.set_cons_succ, if_true, Bool.false_eq_true, if_false, Bool.not_true, Bool.not_false, Nat.reduceLeDiff, Nat.reduceAdd, IT.is_int_int, IT.is_int_bool, IT.is_int_tuple, IT.is_int_list, IT.is_int_str, IT.is_bl_int, IT.is_bl_bool, IT.is_bl_tuple, IT.is_bl_list, IT.is_bl_str, IT.is_str_int, IT.is_str_bool, IT.is_str_tuple, IT.is_str_list, IT.is_str_str, IT.is_tup_int, IT.is_tup_bool, IT.is_tup_tuple, IT.is_tup_list, IT.is_tup_str, IT.is_lst_int, IT.is_lst_bool, IT.is_lst_tuple, IT.is_lst_list, IT.is_lst_str, IT.is_non_int, IT.is_non_bool, IT.is_non_tuple, IT.is_non_list, IT.is_non_str]
  exact end_rt (d := .int _) h rfl
theorem s_sort_int (h : GoodS S) (i : Int) : (cl (n + 1)).ca 28 [.int i] S = .ok (.int 2) S := by
  rw [ca_x (f := b28) rfl (by decide +kernel) (by decide +kernel) rfl rfl]
  simp only [b28, evx_v, evx_k, evx_g, evx_bin, evx_cmp, evx_chn, evx_neg, evx_nt, evx_and, evx_or, evx_ite, evx_tup, evx_lst, evx_nlst, evx_ix, evx_sl, evx_rev, evx_app, evx_join, evx_call, evx_callv, evx_lam, evx_bi, evx_isi, exx_asg, exx_setix, exx_ex, exx_ite, exx_ret, exx_ret0, exx_brk, exx_cnt, exx_pas, exx_rai, Y.b_ok, Y.b_ex, Y.o_ok, Y.o_ex, Y.e_nil, Y.e_cons, Y.eo_none, Y.eo_some, Y.s_nil, Y.s_cons, Y.t_bl, Y.t_int, Y.t_tup, Y.t_lst, Y.t_non, Y.x_and, Y.x_or, Y.x_nt, Y.x_v, Y.x_k, Y.x_cmp, Y.x_chn, Y.x_call, Y.x_callv, Y.x_bi, Y.x_isi, Y.x_exi, Y.x_ix, Y.x_bin, Y.p_n, Y.p_t, Y.p_tl, Y.ps_cons, Y.ps_nil, Y.i_v, Y.i_ix, Y.i_tup, Y.i_lst, Y.i_k, Y.i_bin, Y.i_call, Y.i_sl, Y.i_rev, Y.i_lc, Y.i_rng, Y.i_rng2, Y.i_zip, Y.i_enum, Y.q_t, Y.q_l, Y.q_z, Y.q_zt, Y.q_e, Y.sz, Y.a_int, Y.a_tup, Y.a_lst, Y.su_int, Y.mo_int, Y.mu_intR, Y.mu_intL, Y.fd_intS, Y.po_int, Y.c_lt, Y.c_le, Y.c_gt, Y.c_ge, Y.cc_le, Y.cc_lt, Y.c_isn_n, Y.c_isn_b, Y.c_isn_i, Y.c_isn_s, Y.c_isn_t, Y.c_isn_l, Y.c_nisn_n, Y.c_nisn_b, Y.c_nisn_i, Y.c_nisn_s, Y.c_nisn_t, Y.c_nisn_l, Y.c_eq, Y.c_ne, Y.n_tup, Y.n_lst, Y.n_int, Y.n_abs, Y.n_tt, Y.n_tl, Y.n_lt, Y.n_ll, Y.n_gcd, Y.ix_t0, Y.ix_t1, Y.ix_t2, Y.ix_l0, Y.ix_l1, Y.l_tup, Y.l_lst, Y.r_tup, Y.r_lst, List.map_cons, List.map_nil, List.cons_append, List.nil_append, List.replicate, List.getElem?_cons_zero, List.getElem?_cons_succ, List.length_cons, List.length_nil, List.set_cons_zero, List.set_cons_succ, if_true, Bool.false_eq_true, if_false, Bool.not_true, Bool.not_false, Nat.reduceLeDiff, Nat.reduceAdd, IT.is_int_int, IT.is_int_bool, IT.is_int_tuple, IT.is_int_list, IT.is_int_str, IT.is_bl_int, IT.is_bl_bool, IT.is_bl_tuple, IT.is_bl_list, IT.is_bl_str, IT.is_str_int, IT.is_str_bool, IT.is_str_tuple, IT.is_str_list, IT.is_str_str, IT.is_tup_int, IT.is_tup_bool, IT.is_tup_tuple, IT.is_tup_list, IT.is_tup_str, IT.is_lst_int, IT.is_lst_bool, IT.is_lst_tuple, IT.is_lst_list, IT.is_lst_str, IT.is_non_int, IT.is_non_bool, IT.is_non_tuple, IT.is_non_list, IT.is_non_str]
  exact end_rt (d := .int _) h rfl
theorem s_sort_str (h : GoodS S) (x : PySem.Str) : (cl (n + 1)).ca 28 [.str x] S = .ok (.int 3) S := by
  rw [ca_x (f := b28) rfl (by decide +kernel) (by decide +kernel) rfl rfl]
  simp only [b28, evx_v, evx_k, evx_g, evx_bin, evx_cmp, evx_chn, evx_neg, evx_nt, evx_and, evx_or, evx_ite, evx_tup, evx_lst, evx_nlst, evx_ix, evx_sl, evx_rev, evx_app, evx_join, evx_call, evx_callv, evx_lam, evx_bi, evx_isi, exx_asg, exx_setix, exx_ex, exx_ite, exx_ret, exx_ret0, exx_brk, exx_cnt, exx_pas, exx_rai, Y.b_ok, Y.b_ex, Y.o_ok, Y.o_ex, Y.e_nil, Y.e_cons, Y.eo_none, Y.eo_some, Y.s_nil, Y.s_cons, Y.t_bl, Y.t_int, Y.t_tup, Y.t_lst, Y.t_non, Y.x_and, Y.x_or, Y.x_nt, Y.x_v, Y.x_k, Y.x_cmp, Y.x_chn, Y.x_call, Y.x_callv, Y.x_bi, Y.x_isi, Y.x_exi, Y.x_ix, Y.x_bin, Y.p_n, Y.p_t, Y.p_tl, Y.ps_cons, Y.ps_nil, Y.i_v, Y.i_ix, Y.i_tup, Y.i_lst, Y.i_k, Y.i_bin, Y.i_call, Y.i_sl, Y.i_rev, Y.i_lc, Y.i_rng, Y.i_rng2, Y.i_zip, Y.i_enum, Y.q_t, Y.q_l, Y.q_z, Y.q_zt, Y.q_e, Y.sz, Y.a_int, Y.a_tup, Y.a_lst, Y.su_int, Y.mo_int, Y.mu_intR, Y.mu_intL, Y.fd_intS, Y.po_int, Y.c_lt, Y.c_le, Y.c_gt, Y.c_ge, Y.cc_le, Y.cc_lt, Y.c_isn_n, Y.c_isn_b, Y.c_isn_i, Y.c_isn_s, Y.c_isn_t, Y.c_isn_l, Y.c_nisn_n, Y.c_nisn_b, Y.c_nisn_i, Y.c_nisn_s, Y.c_nisn_t, Y.c_nisn_l, Y.c_eq, Y.c_ne, Y.n_tup, Y.n_lst, Y.n_int, Y.n_abs, Y.n_tt, Y.n_tl, Y.n_lt, Y.n_ll, Y.n_gcd, Y.ix_t0, Y.ix_t1, Y.ix_t2, Y.ix_l0, Y.ix_l1, Y.l_tup, Y.l_lst, Y.r_tup, Y.r_lst, List.map_cons, List.map_nil, List.cons_append, List.nil_append, List.replicate, List.getElem?_cons_zero, List.getElem?_cons_succ, List.length_cons, List.length_nil, List.set_cons_zero, List.set_cons_succ, if_true, Bool.false_eq_true, if_false, Bool.not_true, Bool.not_false, Nat.reduceLeDiff, Nat.reduceAdd, IT.is_int_int, IT.is_int_bool, IT.is_int_tuple, IT.is_int_list, IT.is_int_str, IT.is_bl_int, IT.is_bl_bool, IT.is_bl_tuple, IT.is_bl_list, IT.is_bl_str, IT.is_str_int, IT.is_str_bool, IT.is_str_tuple, IT.is_str_list, IT.is_str_str, IT.is_tup_int, IT.is_tup_bool, IT.is_tup_tuple, IT.is_tup_list, IT.is_tup_str, IT.is_lst_int, IT.is_lst_bool, IT.is_lst_tuple, IT.is_lst_list, IT.is_lst_str, IT.is_non_int, IT.is_non_bool, IT.is_non_tuple, IT.is_non_list, IT.is_non_str]
  exact end_rt (d := .int _) h rfl
theorem s_sort_tup (h : GoodS S) (xs : List D) : (cl (n + 1)).ca 28 [.tup xs] S = .ok (.int 4) S := by
  rw [ca_x (f := b28) rfl (by decide +kernel) (by decide +kernel) rfl rfl]
  simp only [b28, evx_v, evx_k, evx_g, evx_bin, evx_cmp, evx_chn, evx_neg, evx_nt, evx_and, evx_or, evx_ite, evx_tup, evx_lst, evx_nlst, evx_ix, evx_sl, evx_rev, evx_app, evx_join, evx_call, evx_callv, evx_lam, evx_bi, evx_isi, exx_asg, exx_setix, exx_ex, exx_ite, exx_ret, exx_ret0, exx_brk, exx_cnt, exx_pas, exx_rai, Y.b_ok, Y.b_ex, Y.o_ok, Y.o_ex, Y.e_nil, Y.e_cons, Y.eo_none, Y.eo_some, Y.s_nil, Y.s_cons, Y.t_bl, Y.t_int, Y.t_tup, Y.t_lst, Y.t_non, Y.x_and, Y.x_or, Y.x_nt, Y.x_v, Y.x_k, Y.x_cmp, Y.x_chn, Y.x_call, Y.x_callv, Y.x_bi, Y.x_isi, Y.x_exi, Y.x_ix, Y.x_bin, Y.p_n, Y.p_t, Y.p_tl, Y.ps_cons, Y.ps_nil, Y.i_v, Y.i_ix, Y.i_tup, Y.i_lst, Y.i_k, Y.i_bin, Y.i_call, Y.i_sl, Y.i_rev, Y.i_lc, Y.i_rng, Y.i_rng2, Y.i_zip, Y.i_enum, Y.q_t, Y.q_l, Y.q_z, Y.q_zt, Y.q_e, Y.sz, Y.a_int, Y.a_tup, Y.a_lst, Y.su_int, Y.mo_int, Y.mu_intR, Y.mu_intL, Y.fd_intS, Y.po_int, Y.c_lt, Y.c_le, Y.c_gt, Y.c_ge, Y.cc_le, Y.cc_lt, Y.c_isn_n, Y.c_isn_b, Y.c_isn_i, Y.c_isn_s, Y.c_isn_t, Y.c_isn_l, Y.c_nisn_n, Y.c_nisn_b, Y.c_nisn_i, Y.c_nisn_s, Y.c_nisn_t, Y.c_nisn_l, Y.c_eq, Y.c_ne, Y.n_tup, Y.n_lst, Y.n_int, Y.n_abs, Y.n_tt, Y.n_tl, Y.n_lt, Y.n_ll, Y.n_gcd, Y.ix_t0, Y.ix_t1, Y.ix_t2, Y.ix_l0, Y.ix_l1, Y.l_tup, Y.l_lst, Y.r_tup, Y.r_lst, List.map_cons, List.map_nil, List.cons_append, List.nil_append, List.replicate, List.getElem?_cons_zero, List.getElem?_cons_succ, List.length_cons, List.length_nil, List.set_cons_zero, List.set_cons_succ, if_true, Bool.false_eq_true, if_false, Bool.not_true, Bool.not_false, Nat.reduceLeDiff, Nat.reduceAdd, IT.is_int_int, IT.is_int_bool, IT.is_int_tuple, IT.is_int_list, IT.is_int_str, IT.is_bl_int, IT.is_bl_bool, IT.is_bl_tuple, IT.is_bl_list, IT.is_bl_str, IT.is_str_int, IT.is_str_bool, IT.is_str_tuple, IT.is_str_list, IT.is_str_str, IT.is_tup_int, IT.is_tup_bool, IT.is_tup_tuple, IT.is_tup_list, IT.is_tup_str, IT.is_lst_int, IT.is_lst_bool, IT.is_lst_tuple, IT.is_lst_list, IT.is_lst_str, IT.is_non_int, IT.is_non_bool, IT.is_non_tuple, IT.is_non_list, IT.is_non_str]
  exact end_rt (d := .int _) h rfl
theorem s_sort_lst (h : GoodS S) (xs : List D) : (cl (n + 1)).ca 28 [.lst xs] S = .ok (.int 5) S := by
  rw [ca_x (f := b28) rfl (by decide +kernel) (by decide +kernel) rfl rfl]
  simp only [b28, evx_v, evx_k, evx_g, evx_bin, evx_cmp, evx_chn, evx_neg, evx_nt, evx_and, evx_or, evx_ite, evx_tup, evx_lst, evx_nlst, evx_ix, evx_sl, evx_rev, evx_app, evx_join, evx_call, evx_callv, evx_lam, evx_bi, evx_isi, exx_asg, exx_setix, exx_ex, exx_ite, exx_ret, exx_ret0, exx_brk, exx_cnt, exx_pas, exx_rai, Y.b_ok, Y.b_ex, Y.o_ok, Y.o_ex, Y.e_nil, Y.e_cons, Y.eo_none, Y.eo_some, Y.s_nil, Y.s_cons, Y.t_bl, Y.t_int, Y.t_tup, Y.t_lst, Y.t_non, Y.x_and, Y.x_or, Y.x_nt, Y.x_v, Y.x_k, Y.x_cmp, Y.x_chn, Y.x_call, Y.x_callv, Y.x_bi, Y.x_isi, Y.x_exi, Y.x_ix, Y.x_bin, Y.p_n, Y.p_t, Y.p_tl, Y.ps_cons, Y.ps_nil, Y.i_v, Y.i_ix, Y.i_tup, Y.i_lst, Y.i_k, Y.i_bin, Y.i_call, Y.i_sl, Y.i_rev, Y.i_lc, Y.i_rng, Y.i_rng2, Y.i_zip, Y.i_enum, Y.q_t, Y.q_l, Y.q_z, Y.q_zt, Y.q_e, Y.sz, Y.a_int, Y.a_tup, Y.a_lst, Y.su_int, Y.mo_int, Y.mu_intR, Y.mu_intL, Y.fd_intS, Y.po_int, Y.c_lt, Y.c_le, Y.c_gt, Y.c_ge, Y.cc_le, Y.cc_lt, Y.c_isn_n, Y.c_isn_b, Y.c_isn_i, Y.c_isn_s, Y.c_isn_t, Y.c_isn_l, Y.c_nisn_n, Y.c_nisn_b, Y.c_nisn_i, Y.c_nisn_s, Y.c_nisn_t, Y.c_nisn_l, Y.c_eq, Y.c_ne, Y.n_tup, Y.n_lst, Y.n_int, Y.n_abs, Y.n_tt, Y.n_tl, Y.n_lt, Y.n_ll, Y.n_gcd, Y.ix_t0, Y.ix_t1, Y.ix_t2, Y.ix_l0, Y.ix_l1, Y.l_tup, Y.l_lst, Y.r_tup, Y.r_lst, List.map_cons, List.map_nil, List.cons_append, List.nil_append, List.replicate, List.getElem?_cons_zero, List.getElem?_cons_succ, List.length_cons, List.length_nil, List.set_cons_zero, List.set_cons_succ, if_true, Bool.false_eq_true, if_false, Bool.not_true, Bool.not_false, Nat.reduceLeDiff, Nat.reduceAdd, IT.is_int_int, IT.is_int_bool, IT.is_int_tuple, IT.is_int_list, IT.is_int_str, IT.is_bl_int, IT.is_bl_bool, IT.is_bl_tuple, IT.is_bl_list, IT.is_bl_str, IT.is_str_int, IT.is_str_bool, IT.is_str_tuple, IT.is_str_list, IT.is_str_str, IT.is_tup_int, IT.is_tup_bool, IT.is_tup_tuple, IT.is_tup_list, IT.is_tup_str, IT.is_lst_int, IT.is_lst_bool, IT.is_lst_tuple, IT.is_lst_list, IT.is_lst_str, IT.is_non_int, IT.is_non_bool, IT.is_non_tuple, IT.is_non_list, IT.is_non_str]
  exact end_rt (d := .int _) h rfl
/-- a value is like itself -/
theorem s_like : ∀ (k : Nat) (d : D), d.dp ≤ k → d.pv = true → ∀ {n : Nat} {S : Sto}, GoodS S → (cl (n + k + 2)).ca 29 [d, d] S = .ok (.bl true) S := by
  intro k
  induction k with
  | zero =>
    intro d hd hp n S h
    have j1 : ∀ S, cmpR .in_ (.int 0) (.tup [.int 4, .int 5]) S = .ok (.bl false) S := fun S => rfl
    have j2 : ∀ S, cmpR .in_ (.int 1) (.tup [.int 4, .int 5]) S = .ok (.bl false) S := fun S => rfl
    have j3 : ∀ S, cmpR .in_ (.int 2) (.tup [.int 4, .int 5]) S = .ok (.bl false) S := fun S => rfl
    have j4 : ∀ S, cmpR .in_ (.int 3) (.tup [.int 4, .int 5]) S = .ok (.bl false) S := fun S => rfl
    rw [ca_x (f := b29) rfl (by decide +kernel) (by decide +kernel) rfl rfl]
    cases d with
    | non =>
      simp only [b29, evx_v, evx_k, evx_g, evx_bin, evx_cmp, evx_chn, evx_neg, evx_nt, evx_and, evx_or, evx_ite, evx_tup, evx_lst, evx_nlst, evx_ix, evx_sl, evx_rev, evx_app, evx_join, evx_call, evx_callv, evx_lam, evx_bi, evx_isi, exx_asg, exx_setix, exx_ex, exx_ite, exx_ret, exx_ret0, exx_brk, exx_cnt, exx_pas, exx_rai, Y.b_ok, Y.b_ex, Y.o_ok, Y.o_ex, Y.e_nil, Y.e_cons, Y.eo_none, Y.eo_some, Y.s_nil, Y.s_cons, Y.t_bl, Y.t_int, Y.t_tup, Y.t_lst, Y.t_non, Y.x_and, Y.x_or, Y.x_nt, Y.x_v, Y.x_k, Y.x_cmp, Y.x_chn, Y.x_call, Y.x_callv, Y.x_bi, Y.x_isi, Y.x_exi, Y.x_ix, Y.x_bin, Y.p_n, Y.p_t, Y.p_tl, Y.ps_cons, Y.ps_nil, Y.i_v, Y.i_ix, Y.i_tup, Y.i_lst, Y.i_k, Y.i_bin, Y.i_call, Y.i_sl, Y.i_rev, Y.i_lc, Y.i_rng, Y.i_rng2, Y.i_zip, Y.i_enum, Y.q_t, Y.q_l, Y.q_z, Y.q_zt, Y.q_e, Y.sz, Y.a_int, Y.a_tup, Y.a_lst, Y.su_int, Y.mo_int, Y.mu_intR, Y.mu_intL, Y.fd_intS, Y.po_int, Y.c_lt, Y.c_le, Y.c_gt, Y.c_ge, Y.cc_le, Y.cc_lt, Y.c_isn_n, Y.c_isn_b, Y.c_isn_i, Y.c_isn_s, Y.c_isn_t, Y.c_isn_l, Y.c_nisn_n, Y.c_nisn_b, Y.c_nisn_i, Y.c_nisn_s, Y.c_nisn_t, Y.c_nisn_l, Y.c_eq, Y.c_ne, Y.n_tup, Y.n_lst, Y.n_int, Y.n_abs, Y.n_tt, Y.n_tl, Y.n_lt, Y.n_ll, Y.n_gcd, Y.ix_t0, Y.ix_t1, Y.ix_t2, Y.ix_l0, Y.ix_l1, Y.l_tup, Y.l_lst, Y.r_tup, Y.r_lst, List.map_cons, List.map_nil, List.cons_append, List.nil_append, List.replicate, List.getElem?_cons_zero, List.getElem?_cons_succ, List.length_cons, List.length_nil, List.set_cons_zero, List.set_cons_succ, if_true, Bool.false_eq_true, if_false, Bool.not_true, Bool.not_false, Nat.reduceLeDiff, Nat.reduceAdd, kn0, kn1, kn2, kn3, kn4, kn5, kn6, kn7, kn8, kn9, kn10, kn11, kn12, kn13, kn14, kn15, kn16, kn17, kn18, kn19, kn20, kn21, kn22, kn23, kn24, kn25, kn26, kn27, kn28, kn29, kn30, kn31, kn32, kn33, kn34, kn35, kn37, kn38, kn39, s_sort_non h, j1, ceq_non, Nat.add_zero, Int.reduceEq, decide_true, decide_false]
      exact end_rt (d := .bl _) h rfl
    | bl b =>
      simp only [b29, evx_v, evx_k, evx_g, evx_bin, evx_cmp, evx_chn, evx_neg, evx_nt, evx_and, evx_or, evx_ite, evx_tup, evx_lst, evx_nlst, evx_ix, evx_sl, evx_rev, evx_app, evx_join, evx_call, evx_callv, evx_lam, evx_bi, evx_isi, exx_asg, exx_setix, exx_ex, exx_ite, exx_ret, exx_ret0, exx_brk, exx_cnt, exx_pas, exx_rai, Y.b_ok, Y.b_ex, Y.o_ok, Y.o_ex, Y.e_nil, Y.e_cons, Y.eo_none, Y.eo_some, Y.s_nil, Y.s_cons, Y.t_bl, Y.t_int, Y.t_tup, Y.t_lst, Y.t_non, Y.x_and, Y.x_or, Y.x_nt, Y.x_v, Y.x_k, Y.x_cmp, Y.x_chn, Y.x_call, Y.x_callv, Y.x_bi, Y.x_isi, Y.x_exi, Y.x_ix, Y.x_bin, Y.p_n, Y.p_t, Y.p_tl, Y.ps_cons, Y.ps_nil, Y.i_v, Y.i_ix, Y.i_tup, Y.i_lst, Y.i_k, Y.i_bin, Y.i_call, Y.i_sl, Y.i_rev, Y.i_lc, Y.i_rng, Y.i_rng2, Y.i_zip, Y.i_enum, Y.q_t, Y.q_l, Y.q_z, Y.q_zt, Y.q_e, Y.sz, Y.a_int, Y.a_tup, Y.a_lst, Y.su_int, Y.mo_int, Y.mu_intR, Y.mu_intL, Y.fd_intS, Y.po_int, Y.c_lt, Y.c_le, Y.c_gt, Y.c_ge, Y.cc_le, Y.cc_lt, Y.c_isn_n, Y.c_isn_b, Y.c_isn_i, Y.c_isn_s, Y.c_isn_t, Y.c_isn_l, Y.c_nisn_n, Y.c_nisn_b, Y.c_nisn_i, Y.c_nisn_s, Y.c_nisn_t, Y.c_nisn_l, Y.c_eq, Y.c_ne, Y.n_tup, Y.n_lst, Y.n_int, Y.n_abs, Y.n_tt, Y.n_tl, Y.n_lt, Y.n_ll, Y.n_gcd, Y.ix_t0, Y.ix_t1, Y.ix_t2, Y.ix_l0, Y.ix_l1, Y.l_tup, Y.l_lst, Y.r_tup, Y.r_lst, List.map_cons, List.map_nil, List.cons_append, List.nil_append, List.replicate, List.getElem?_cons_zero, List.getElem?_cons_succ, List.length_cons, List.length_nil, List.set_cons_zero, List.set_cons_succ, if_true, Bool.false_eq_true, if_false, Bool.not_true, Bool.not_false, Nat.reduceLeDiff, Nat.reduceAdd, kn0, kn1, kn2, kn3, kn4, kn5, kn6, kn7, kn8, kn9, kn10, kn11, kn12, kn13, kn14, kn15, kn16, kn17, kn18, kn19, kn20, kn21, kn22, kn23, kn24, kn25, kn26, kn27, kn28, kn29, kn30, kn31, kn32, kn33, kn34, kn35, kn37, kn38, kn39, s_sort_bl h, j2, ceq_bl, Nat.add_zero, Int.reduceEq, decide_true, decide_false]
      exact end_rt (d := .bl _) h rfl
    | int i =>
      simp only [b29, evx_v, evx_k, evx_g, evx_bin, evx_cmp, evx_chn, evx_neg, evx_nt, evx_and, evx_or, evx_ite, evx_tup, evx_lst, evx_nlst, evx_ix, evx_sl, evx_rev, evx_app, evx_join, evx_call, evx_callv, evx_lam, evx_bi, evx_isi, exx_asg, exx_setix, exx_ex, exx_ite, exx_ret, exx_ret0, exx_brk, exx_cnt, exx_pas, exx_rai, Y.b_ok, Y.b_ex, Y.o_ok, Y.o_ex, Y.e_nil, Y.e_cons, Y.eo_none, Y.eo_some, Y.s_nil, Y.s_cons, Y.t_bl, Y.t_int, Y.t_tup, Y.t_lst, Y.t_non, Y.x_and, Y.x_or, Y.x_nt, Y.x_v, Y.x_k, Y.x_cmp, Y.x_chn, Y.x_call, Y.x_callv, Y.x_bi, Y.x_isi, Y.x_exi, Y.x_ix, Y.x_bin, Y.p_n, Y.p_t, Y.p_tl, Y.ps_cons, Y.ps_nil, Y.i_v, Y.i_ix, Y.i_tup, Y.i_lst, Y.i_k, Y.i_bin, Y.i_call, Y.i_sl, Y.i_rev, Y.i_lc, Y.i_rng, Y.i_rng2, Y.i_zip, Y.i_enum, Y.q_t, Y.q_l, Y.q_z, Y.q_zt, Y.q_e, Y.sz, Y.a_int, Y.a_tup, Y.a_lst, Y.su_int, Y.mo_int, Y.mu_intR, Y.mu_intL, Y.fd_intS, Y.po_int, Y.c_lt, Y.c_le, Y.c_gt, Y.c_ge, Y.cc_le, Y.cc_lt, Y.c_isn_n, Y.c_isn_b, Y.c_isn_i, Y.c_isn_s, Y.c_isn_t, Y.c_isn_l, Y.c_nisn_n, Y.c_nisn_b, Y.c_nisn_i, Y.c_nisn_s, Y.c_nisn_t, Y.c_nisn_l, Y.c_eq, Y.c_ne, Y.n_tup, Y.n_lst, Y.n_int, Y.n_abs, Y.n_tt, Y.n_tl, Y.n_lt, Y.n_ll, Y.n_gcd, Y.ix_t0, Y.ix_t1, Y.ix_t2, Y.ix_l0, Y.ix_l1, Y.l_tup, Y.l_lst, Y.r_tup, Y.r_lst, List.map_cons, List.map_nil, List.cons_append, List.nil_append, List.replicate, List.getElem?_cons_zero, List.getElem?_cons_succ, List.length_cons, List.length_nil, List.set_cons_zero, List.set_cons_succ, if_true, Bool.false_eq_true, if_false, Bool.not_true, Bool.not_false, Nat.reduceLeDiff, Nat.reduceAdd, kn0, kn1, kn2, kn3, kn4, kn5, kn6, kn7, kn8, kn9, kn10, kn11, kn12, kn13, kn14, kn15, kn16, kn17, kn18, kn19, kn20, kn21, kn22, kn23, kn24, kn25, kn26, kn27, kn28, kn29, kn30, kn31, kn32, kn33, kn34, kn35, kn37, kn38, kn39, s_sort_int h, j3, Nat.add_zero, Int.reduceEq, decide_true, decide_false]
      exact end_rt (d := .bl _) h rfl
    | str x =>
      simp only [b29, evx_v, evx_k, evx_g, evx_bin, evx_cmp, evx_chn, evx_neg, evx_nt, evx_and, evx_or, evx_ite, evx_tup, evx_lst, evx_nlst, evx_ix, evx_sl, evx_rev, evx_app, evx_join, evx_call, evx_callv, evx_lam, evx_bi, evx_isi, exx_asg, exx_setix, exx_ex, exx_ite, exx_ret, exx_ret0, exx_brk, exx_cnt, exx_pas, exx_rai, Y.b_ok, Y.b_ex, Y.o_ok, Y.o_ex, Y.e_nil, Y.e_cons, Y.eo_none, Y.eo_some, Y.s_nil, Y.s_cons, Y.t_bl, Y.t_int, Y.t_tup, Y.t_lst, Y.t_non, Y.x_and, Y.x_or, Y.x_nt, Y.x_v, Y.x_k, Y.x_cmp, Y.x_chn, Y.x_call, Y.x_callv, Y.x_bi, Y.x_isi, Y.x_exi, Y.x_ix, Y.x_bin, Y.p_n, Y.p_t, Y.p_tl, Y.ps_cons, Y.ps_nil, Y.i_v, Y.i_ix, Y.i_tup, Y.i_lst, Y.i_k, Y.i_bin, Y.i_call, Y.i_sl, Y.i_rev, Y.i_lc, Y.i_rng, Y.i_rng2, Y.i_zip, Y.i_enum, Y.q_t, Y.q_l, Y.q_z, Y.q_zt, Y.q_e, Y.sz, Y.a_int, Y.a_tup, Y.a_lst, Y.su_int, Y.mo_int, Y.mu_intR, Y.mu_intL, Y.fd_intS, Y.po_int, Y.c_lt, Y.c_le, Y.c_gt, Y.c_ge, Y.cc_le, Y.cc_lt, Y.c_isn_n, Y.c_isn_b, Y.c_isn_i, Y.c_isn_s, Y.c_isn_t, Y.c_isn_l, Y.c_nisn_n, Y.c_nisn_b, Y.c_nisn_i, Y.c_nisn_s, Y.c_nisn_t, Y.c_nisn_l, Y.c_eq, Y.c_ne, Y.n_tup, Y.n_lst, Y.n_int, Y.n_abs, Y.n_tt, Y.n_tl, Y.n_lt, Y.n_ll, Y.n_gcd, Y.ix_t0, Y.ix_t1, Y.ix_t2, Y.ix_l0, Y.ix_l1, Y.l_tup, Y.l_lst, Y.r_tup, Y.r_lst, List.map_cons, List.map_nil, List.cons_append, List.nil_append, List.replicate, List.getElem?_cons_zero, List.getElem?_cons_succ, List.length_cons, List.length_nil, List.set_cons_zero, List.set_cons_succ, if_true, Bool.false_eq_true, if_false, Bool.not_true, Bool.not_false, Nat.reduceLeDiff, Nat.reduceAdd, kn0, kn1, kn2, kn3, kn4, kn5, kn6, kn7, kn8, kn9, kn10, kn11, kn12, kn13, kn14, kn15, kn16, kn17, kn18, kn19, kn20, kn21, kn22, kn23, kn24, kn25, kn26, kn27, kn28, kn29, kn30, kn31, kn32, kn33, kn34, kn35, kn37, kn38, kn39, s_sort_str h, j4, ceq_str S x hp, Nat.add_zero, Int.reduceEq, decide_true, decide_false]
      exact end_rt (d := .bl _) h rfl
    | tup xs => rw [D.dp] at hd; omega
    | lst xs => rw [D.dp] at hd; omega
    | _ => cases hp
  | succ k ih =>
    intro d hd hp n S h
    have up : d.dp = 0 → (cl (n + (k + 1) + 2)).ca 29 [d, d] S = .ok (.bl true) S := fun h0 => by
      have := ih d (by omega) hp (n := n + 1) h
      rw [show n + (k + 1) + 2 = n + 1 + k + 2 by omega]
      exact this
    have j1 : ∀ S, cmpR .in_ (.int 4) (.tup [.int 4, .int 5]) S = .ok (.bl true) S := fun S => rfl
    have j2 : ∀ S, cmpR .in_ (.int 5) (.tup [.int 4, .int 5]) S = .ok (.bl true) S := fun S => rfl
    have j3 : cmpR .eq (.lst []) (.lst []) S = .ok (.bl true) S := rfl
    have e0 : n + (k + 1) + 2 = (n + k + 2) + 1 := by omega
    cases d with
    | tup xs =>
      rw [D.dp] at hd
      rw [D.pv, Bool.and_eq_true, decide_eq_true_eq] at hp
      have e2 := lc_filter (c := cl (n + k + 2)) (G := LL.G) (δ := [some (.tup xs), some (.tup xs), some (.int 4), none, none, none]) (S := S) (S1 := S) (it := .zip (.v 0) (.v 1)) (tg := .t [.n 4, .n 5]) (own := [3, 4, 5]) (elt := .k (.int 1)) (t := .nt (.call 29 [(.v 4), (.v 5)])) (gs := []) (enc := fun x => .tup [x, x]) (ys := xs) (fun _ => .int 1) (fun _ => false) (by simp only [evx_v, evx_k, evx_g, evx_bin, evx_cmp, evx_chn, evx_neg, evx_nt, evx_and, evx_or, evx_ite, evx_tup, evx_lst, evx_nlst, evx_ix, evx_sl, evx_rev, evx_app, evx_join, evx_call, evx_callv, evx_lam, evx_bi, evx_isi, exx_asg, exx_setix, exx_ex, exx_ite, exx_ret, exx_ret0, exx_brk, exx_cnt, exx_pas, exx_rai, Y.b_ok, Y.b_ex, Y.o_ok, Y.o_ex, Y.e_nil, Y.e_cons, Y.eo_none, Y.eo_some, Y.s_nil, Y.s_cons, Y.t_bl, Y.t_int, Y.t_tup, Y.t_lst, Y.t_non, Y.x_and, Y.x_or, Y.x_nt, Y.x_v, Y.x_k, Y.x_cmp, Y.x_chn, Y.x_call, Y.x_callv, Y.x_bi, Y.x_isi, Y.x_exi, Y.x_ix, Y.x_bin, Y.p_n, Y.p_t, Y.p_tl, Y.ps_cons, Y.ps_nil, Y.i_v, Y.i_ix, Y.i_tup, Y.i_lst, Y.i_k, Y.i_bin, Y.i_call, Y.i_sl, Y.i_rev, Y.i_lc, Y.i_rng, Y.i_rng2, Y.i_zip, Y.i_enum, Y.q_t, Y.q_l, Y.q_z, Y.q_zt, Y.q_e, Y.sz, Y.a_int, Y.a_tup, Y.a_lst, Y.su_int, Y.mo_int, Y.mu_intR, Y.mu_intL, Y.fd_intS, Y.po_int, Y.c_lt, Y.c_le, Y.c_gt, Y.c_ge, Y.cc_le, Y.cc_lt, Y.c_isn_n, Y.c_isn_b, Y.c_isn_i, Y.c_isn_s, Y.c_isn_t, Y.c_isn_l, Y.c_nisn_n, Y.c_nisn_b, Y.c_nisn_i, Y.c_nisn_s, Y.c_nisn_t, Y.c_nisn_l, Y.c_eq, Y.c_ne, Y.n_tup, Y.n_lst, Y.n_int, Y.n_abs, Y.n_tt, Y.n_tl, Y.n_lt, Y.n_ll, Y.n_gcd, Y.ix_t0, Y.ix_t1, Y.ix_t2, Y.ix_l0, Y.ix_l1, Y.l_tup, Y.l_lst, Y.r_tup, Y.r_lst, List.map_cons, List.map_nil, List.cons_append, List.nil_append, List.replicate, List.getElem?_cons_zero, List.getElem?_cons_succ, List.length_cons, List.length_nil, List.set_cons_zero, List.set_cons_succ, if_true, Bool.false_eq_true, if_false, Bool.not_true, Bool.not_false, Nat.reduceLeDiff, Nat.reduceAdd, zip_same]) rfl (by omega) (fun y hy => ⟨_, by simp only [Y.p_t, Y.ps_cons, Y.p_n, Y.ps_nil]; rfl, by
        simp only [wipeD, evx_v, evx_k, evx_g, evx_bin, evx_cmp, evx_chn, evx_neg, evx_nt, evx_and, evx_or, evx_ite, evx_tup, evx_lst, evx_nlst, evx_ix, evx_sl, evx_rev, evx_app, evx_join, evx_call, evx_callv, evx_lam, evx_bi, evx_isi, exx_asg, exx_setix, exx_ex, exx_ite, exx_ret, exx_ret0, exx_brk, exx_cnt, exx_pas, exx_rai, Y.b_ok, Y.b_ex, Y.o_ok, Y.o_ex, Y.e_nil, Y.e_cons, Y.eo_none, Y.eo_some, Y.s_nil, Y.s_cons, Y.t_bl, Y.t_int, Y.t_tup, Y.t_lst, Y.t_non, Y.x_and, Y.x_or, Y.x_nt, Y.x_v, Y.x_k, Y.x_cmp, Y.x_chn, Y.x_call, Y.x_callv, Y.x_bi, Y.x_isi, Y.x_exi, Y.x_ix, Y.x_bin, Y.p_n, Y.p_t, Y.p_tl, Y.ps_cons, Y.ps_nil, Y.i_v, Y.i_ix, Y.i_tup, Y.i_lst, Y.i_k, Y.i_bin, Y.i_call, Y.i_sl, Y.i_rev, Y.i_lc, Y.i_rng, Y.i_rng2, Y.i_zip, Y.i_enum, Y.q_t, Y.q_l, Y.q_z, Y.q_zt, Y.q_e, Y.sz, Y.a_int, Y.a_tup, Y.a_lst, Y.su_int, Y.mo_int, Y.mu_intR, Y.mu_intL, Y.fd_intS, Y.po_int, Y.c_lt, Y.c_le, Y.c_gt, Y.c_ge, Y.cc_le, Y.cc_lt, Y.c_isn_n, Y.c_isn_b, Y.c_isn_i, Y.c_isn_s, Y.c_isn_t, Y.c_isn_l, Y.c_nisn_n, Y.c_nisn_b, Y.c_nisn_i, Y.c_nisn_s, Y.c_nisn_t, Y.c_nisn_l, Y.c_eq, Y.c_ne, Y.n_tup, Y.n_lst, Y.n_int, Y.n_abs, Y.n_tt, Y.n_tl, Y.n_lt, Y.n_ll, Y.n_gcd, Y.ix_t0, Y.ix_t1, Y.ix_t2, Y.ix_l0, Y.ix_l1, Y.l_tup, Y.l_lst, Y.r_tup, Y.r_lst, List.map_cons, List.map_nil, List.cons_append, List.nil_append, List.replicate, List.getElem?_cons_zero, List.getElem?_cons_succ, List.length_cons, List.length_nil, List.set_cons_zero, List.set_cons_succ, if_true, Bool.false_eq_true, if_false, Bool.not_true, Bool.not_false, Nat.reduceLeDiff, Nat.reduceAdd, kn0, kn1, kn2, kn3, kn4, kn5, kn6, kn7, kn8, kn9, kn10, kn11, kn12, kn13, kn14, kn15, kn16, kn17, kn18, kn19, kn20, kn21, kn22, kn23, kn24, kn25, kn26, kn27, kn28, kn29, kn30, kn31, kn32, kn33, kn34, kn35, kn37, kn38, kn39, ih y (Nat.le_trans (dps_mem hy) (by omega)) (pvs_mem hp.2 hy) (n := n) h], fun z => by cases z⟩)
      have e3 : xs.filter (fun _ => false) = [] := by simp
      rw [e3, List.map_nil] at e2
      rw [e0, ca_x (f := b29) rfl (by decide +kernel) (by decide +kernel) rfl rfl]
      simp only [b29, evx_v, evx_k, evx_g, evx_bin, evx_cmp, evx_chn, evx_neg, evx_nt, evx_and, evx_or, evx_ite, evx_tup, evx_lst, evx_nlst, evx_ix, evx_sl, evx_rev, evx_app, evx_join, evx_call, evx_callv, evx_lam, evx_bi, evx_isi, exx_asg, exx_setix, exx_ex, exx_ite, exx_ret, exx_ret0, exx_brk, exx_cnt, exx_pas, exx_rai, Y.b_ok, Y.b_ex, Y.o_ok, Y.o_ex, Y.e_nil, Y.e_cons, Y.eo_none, Y.eo_some, Y.s_nil, Y.s_cons, Y.t_bl, Y.t_int, Y.t_tup, Y.t_lst, Y.t_non, Y.x_and, Y.x_or, Y.x_nt, Y.x_v, Y.x_k, Y.x_cmp, Y.x_chn, Y.x_call, Y.x_callv, Y.x_bi, Y.x_isi, Y.x_exi, Y.x_ix, Y.x_bin, Y.p_n, Y.p_t, Y.p_tl, Y.ps_cons, Y.ps_nil, Y.i_v, Y.i_ix, Y.i_tup, Y.i_lst, Y.i_k, Y.i_bin, Y.i_call, Y.i_sl, Y.i_rev, Y.i_lc, Y.i_rng, Y.i_rng2, Y.i_zip, Y.i_enum, Y.q_t, Y.q_l, Y.q_z, Y.q_zt, Y.q_e, Y.sz, Y.a_int, Y.a_tup, Y.a_lst, Y.su_int, Y.mo_int, Y.mu_intR, Y.mu_intL, Y.fd_intS, Y.po_int, Y.c_lt, Y.c_le, Y.c_gt, Y.c_ge, Y.cc_le, Y.cc_lt, Y.c_isn_n, Y.c_isn_b, Y.c_isn_i, Y.c_isn_s, Y.c_isn_t, Y.c_isn_l, Y.c_nisn_n, Y.c_nisn_b, Y.c_nisn_i, Y.c_nisn_s, Y.c_nisn_t, Y.c_nisn_l, Y.c_eq, Y.c_ne, Y.n_tup, Y.n_lst, Y.n_int, Y.n_abs, Y.n_tt, Y.n_tl, Y.n_lt, Y.n_ll, Y.n_gcd, Y.ix_t0, Y.ix_t1, Y.ix_t2, Y.ix_l0, Y.ix_l1, Y.l_tup, Y.l_lst, Y.r_tup, Y.r_lst, List.map_cons, List.map_nil, List.cons_append, List.nil_append, List.replicate, List.getElem?_cons_zero, List.getElem?_cons_succ, List.length_cons, List.length_nil, List.set_cons_zero, List.set_cons_succ, if_true, Bool.false_eq_true, if_false, Bool.not_true, Bool.not_false, Nat.reduceLeDiff, Nat.reduceAdd, kn0, kn1, kn2, kn3, kn4, kn5, kn6, kn7, kn8, kn9, kn10, kn11, kn12, kn13, kn14, kn15, kn16, kn17, kn18, kn19, kn20, kn21, kn22, kn23, kn24, kn25, kn26, kn27, kn28, kn29, kn30, kn31, kn32, kn33, kn34, kn35, kn37, kn38, kn39, s_sort_tup h, j1, j3, e2, Int.reduceEq, decide_true, decide_false]
      exact end_rt (d := .bl _) h rfl
    | lst xs =>
      rw [D.dp] at hd
      rw [D.pv, Bool.and_eq_true, decide_eq_true_eq] at hp
      have e2 := lc_filter (c := cl (n + k + 2)) (G := LL.G) (δ := [some (.lst xs), some (.lst xs), some (.int 5), none, none, none]) (S := S) (S1 := S) (it := .zip (.v 0) (.v 1)) (tg := .t [.n 4, .n 5]) (own := [3, 4, 5]) (elt := .k (.int 1)) (t := .nt (.call 29 [(.v 4), (.v 5)])) (gs := []) (enc := fun x => .tup [x, x]) (ys := xs) (fun _ => .int 1) (fun _ => false) (by simp only [evx_v, evx_k, evx_g, evx_bin, evx_cmp, evx_chn, evx_neg, evx_nt, evx_and, evx_or, evx_ite, evx_tup, evx_lst, evx_nlst, evx_ix, evx_sl, evx_rev, evx_app, evx_join, evx_call, evx_callv, evx_lam, evx_bi, evx_isi, exx_asg, exx_setix, exx_ex, exx_ite, exx_ret, exx_ret0, exx_brk, exx_cnt, exx_pas, exx_rai, Y.b_ok, Y.b_ex, Y.o_ok, Y.o_ex, Y.e_nil, Y.e_cons, Y.eo_none, Y.eo_some, Y.s_nil, Y.s_cons, Y.t_bl, Y.t_int, Y.t_tup, Y.t_lst, Y.t_non, Y.x_and, Y.x_or, Y.x_nt, Y.x_v, Y.x_k, Y.x_cmp, Y.x_chn, Y.x_call, Y.x_callv, Y.x_bi, Y.x_isi, Y.x_exi, Y.x_ix, Y.x_bin, Y.p_n, Y.p_t, Y.p_tl, Y.ps_cons, Y.ps_nil, Y.i_v, Y.i_ix, Y.i_tup, Y.i_lst, Y.i_k, Y.i_bin, Y.i_call, Y.i_sl, Y.i_rev, Y.i_lc, Y.i_rng, Y.i_rng2, Y.i_zip, Y.i_enum, Y.q_t, Y.q_l, Y.q_z, Y.q_zt, Y.q_e, Y.sz, Y.a_int, Y.a_tup, Y.a_lst, Y.su_int, Y.mo_int, Y.mu_intR, Y.mu_intL, Y.fd_intS, Y.po_int, Y.c_lt, Y.c_le, Y.c_gt, Y.c_ge, Y.cc_le, Y.cc_lt, Y.c_isn_n, Y.c_isn_b, Y.c_isn_i, Y.c_isn_s, Y.c_isn_t, Y.c_isn_l, Y.c_nisn_n, Y.c_nisn_b, Y.c_nisn_i, Y.c_nisn_s, Y.c_nisn_t, Y.c_nisn_l, Y.c_eq, Y.c_ne, Y.n_tup, Y.n_lst, Y.n_int, Y.n_abs, Y.n_tt, Y.n_tl, Y.n_lt, Y.n_ll, Y.n_gcd, Y.ix_t0, Y.ix_t1, Y.ix_t2, Y.ix_l0, Y.ix_l1, Y.l_tup, Y.l_lst, Y.r_tup, Y.r_lst, List.map_cons, List.map_nil, List.cons_append, List.nil_append, List.replicate, List.getElem?_cons_zero, List.getElem?_cons_succ, List.length_cons, List.length_nil, List.set_cons_zero, List.set_cons_succ, if_true, Bool.false_eq_true, if_false, Bool.not_true, Bool.not_false, Nat.reduceLeDiff, Nat.reduceAdd, zip_same]) rfl (by omega) (fun y hy => ⟨_, by simp only [Y.p_t, Y.ps_cons, Y.p_n, Y.ps_nil]; rfl, by
        simp only [wipeD, evx_v, evx_k, evx_g, evx_bin, evx_cmp, evx_chn, evx_neg, evx_nt, evx_and, evx_or, evx_ite, evx_tup, evx_lst, evx_nlst, evx_ix, evx_sl, evx_rev, evx_app, evx_join, evx_call, evx_callv, evx_lam, evx_bi, evx_isi, exx_asg, exx_setix, exx_ex, exx_ite, exx_ret, exx_ret0, exx_brk, exx_cnt, exx_pas, exx_rai, Y.b_ok, Y.b_ex, Y.o_ok, Y.o_ex, Y.e_nil, Y.e_cons, Y.eo_none, Y.eo_some, Y.s_nil, Y.s_cons, Y.t_bl, Y.t_int, Y.t_tup, Y.t_lst, Y.t_non, Y.x_and, Y.x_or, Y.x_nt, Y.x_v, Y.x_k, Y.x_cmp, Y.x_chn, Y.x_call, Y.x_callv, Y.x_bi, Y.x_isi, Y.x_exi, Y.x_ix, Y.x_bin, Y.p_n, Y.p_t, Y.p_tl, Y.ps_cons, Y.ps_nil, Y.i_v, Y.i_ix, Y.i_tup, Y.i_lst, Y.i_k, Y.i_bin, Y.i_call, Y.i_sl, Y.i_rev, Y.i_lc, Y.i_rng, Y.i_rng2, Y.i_zip, Y.i_enum, Y.q_t, Y.q_l, Y.q_z, Y.q_zt, Y.q_e, Y.sz, Y.a_int, Y.a_tup, Y.a_lst, Y.su_int, Y.mo_int, Y.mu_intR, Y.mu_intL, Y.fd_intS, Y.po_int, Y.c_lt, Y.c_le, Y.c_gt, Y.c_ge, Y.cc_le, Y.cc_lt, Y.c_isn_n, Y.c_isn_b, Y.c_isn_i, Y.c_isn_s, Y.c_isn_t, Y.c_isn_l, Y.c_nisn_n, Y.c_nisn_b, Y.c_nisn_i, Y.c_nisn_s, Y.c_nisn_t, Y.c_nisn_l, Y.c_eq, Y.c_ne, Y.n_tup, Y.n_lst, Y.n_int, Y.n_abs, Y.n_tt, Y.n_tl, Y.n_lt, Y.n_ll, Y.n_gcd, Y.ix_t0, Y.ix_t1, Y.ix_t2, Y.ix_l0, Y.ix_l1, Y.l_tup, Y.l_lst, Y.r_tup, Y.r_lst, List.map_cons, List.map_nil, List.cons_append, List.nil_append, List.replicate, List.getElem?_cons_zero, List.getElem?_cons_succ, List.length_cons, List.length_nil, List.set_cons_zero, List.set_cons_succ, if_true, Bool.false_eq_true, if_false, Bool.not_true, Bool.not_false, Nat.reduceLeDiff, Nat.reduceAdd, kn0, kn1, kn2, kn3, kn4, kn5, kn6, kn7, kn8, kn9, kn10, kn11, kn12, kn13, kn14, kn15, kn16, kn17, kn18, kn19, kn20, kn21, kn22, kn23, kn24, kn25, kn26, kn27, kn28, kn29, kn30, kn31, kn32, kn33, kn34, kn35, kn37, kn38, kn39, ih y (Nat.le_trans (dps_mem hy) (by omega)) (pvs_mem hp.2 hy) (n := n) h], fun z => by cases z⟩)
      have e3 : xs.filter (fun _ => false) = [] := by simp
      rw [e3, List.map_nil] at e2
      rw [e0, ca_x (f := b29) rfl (by decide +kernel) (by decide +kernel) rfl rfl]
      simp only [b29, evx_v, evx_k, evx_g, evx_bin, evx_cmp, evx_chn, evx_neg, evx_nt, evx_and, evx_or, evx_ite, evx_tup, evx_lst, evx_nlst, evx_ix, evx_sl, evx_rev, evx_app, evx_join, evx_call, evx_callv, evx_lam, evx_bi, evx_isi, exx_asg, exx_setix, exx_ex, exx_ite, exx_ret, exx_ret0, exx_brk, exx_cnt, exx_pas, exx_rai, Y.b_ok, Y.b_ex, Y.o_ok, Y.o_ex, Y.e_nil, Y.e_cons, Y.eo_none, Y.eo_some, Y.s_nil, Y.s_cons, Y.t_bl, Y.t_int, Y.t_tup, Y.t_lst, Y.t_non, Y.x_and, Y.x_or, Y.x_nt, Y.x_v, Y.x_k, Y.x_cmp, Y.x_chn, Y.x_call, Y.x_callv, Y.x_bi, Y.x_isi, Y.x_exi, Y.x_ix, Y.x_bin, Y.p_n, Y.p_t, Y.p_tl, Y.ps_cons, Y.ps_nil, Y.i_v, Y.i_ix, Y.i_tup, Y.i_lst, Y.i_k, Y.i_bin, Y.i_call, Y.i_sl, Y.i_rev, Y.i_lc, Y.i_rng, Y.i_rng2, Y.i_zip, Y.i_enum, Y.q_t, Y.q_l, Y.q_z, Y.q_zt, Y.q_e, Y.sz, Y.a_int, Y.a_tup, Y.a_lst, Y.su_int, Y.mo_int, Y.mu_intR, Y.mu_intL, Y.fd_intS, Y.po_int, Y.c_lt, Y.c_le, Y.c_gt, Y.c_ge, Y.cc_le, Y.cc_lt, Y.c_isn_n, Y.c_isn_b, Y.c_isn_i, Y.c_isn_s, Y.c_isn_t, Y.c_isn_l, Y.c_nisn_n, Y.c_nisn_b, Y.c_nisn_i, Y.c_nisn_s, Y.c_nisn_t, Y.c_nisn_l, Y.c_eq, Y.c_ne, Y.n_tup, Y.n_lst, Y.n_int, Y.n_abs, Y.n_tt, Y.n_tl, Y.n_lt, Y.n_ll, Y.n_gcd, Y.ix_t0, Y.ix_t1, Y.ix_t2, Y.ix_l0, Y.ix_l1, Y.l_tup, Y.l_lst, Y.r_tup, Y.r_lst, List.map_cons, List.map_nil, List.cons_append, List.nil_append, List.replicate, List.getElem?_cons_zero, List.getElem?_cons_succ, List.length_cons, List.length_nil, List.set_cons_zero, List.set_cons_succ, if_true, Bool.false_eq_true, if_false, Bool.not_true, Bool.not_false, Nat.reduceLeDiff, Nat.reduceAdd, kn0, kn1, kn2, kn3, kn4, kn5, kn6, kn7, kn8, kn9, kn10, kn11, kn12, kn13, kn14, kn15, kn16, kn17, kn18, kn19, kn20, kn21, kn22, kn23, kn24, kn25, kn26, kn27, kn28, kn29, kn30, kn31, kn32, kn33, kn34, kn35, kn37, kn38, kn39, s_sort_lst h, j2, j3, e2, Int.reduceEq, decide_true, decide_false]
      exact end_rt (d := .bl _) h rfl
    | non => exact up rfl
    | bl _ => exact up rfl
    | int _ => exact up rfl
    | str _ => exact up rfl
    | _ => cases hp
/-! ### draws -/
theorem s_cup (ns : List Int) (y : D) (h : y = .scr ns ∨ y = .lst (ns.map D.int)) (hl : ns.length ≤ 63) : ∃ c : Cp, (cl (n + 1)).ca 25 [y] [] = .ok (.ref 0) (Cup c []) := by
  have e1 : bins .list [y] [] = .ok (.lst (ns.map D.int)) [] := by
    rcases h with rfl | rfl <;> rfl
  obtain ⟨v, r, hv⟩ : ∃ (v : Int) (r : List D), ns.map D.int ++ [.int 0] = .int v :: r := by
    cases ns with
    | nil => exact ⟨0, [], rfl⟩
    | cons z zs => exact ⟨z, _, rfl⟩
  have e2 := Y.a_lst [] (xs := ns.map D.int) (ys := [.int 0]) (by simp; omega)
  rw [hv] at e2
  have p18 : ∀ S, binop .pow (.int 10) (.int 18) S = .ok (.int 1000000000000000000) S := fun S => rfl
  have m1 := Y.mu_intR [] (i := (v.natAbs : Int)) (j := 1061) (by decide) (by decide)
  have b0 : 0 ≤ ((v.natAbs : Int) * 1061 + 89533) % 1048576 := Int.emod_nonneg _ (by omega)
  have hd := Y.fd_intS [] (i := (v.natAbs : Int)) (j := 283) (by decide) (by decide)
  have mo := fun x => Y.mo_int [] (i := x) (j := 1048576) (by decide)
  have fin : ∀ a b, endO b25.keep 0 (.rt (.ref 0) [.lst [.int a, .int b]]) = .ok (.ref 0) [.lst [.int a, .int b]] := fun a b => rfl
  by_cases hc : (1000000000000000000 : Int) ≤ (v.natAbs : Int)
  · refine ⟨⟨(v.natAbs : Int) / 283, _, Int.ediv_nonneg (by omega) (by omega), b0⟩, ?_⟩
    rw [ca_x (f := b25) rfl (by decide +kernel) (by decide +kernel) rfl rfl]
    simp only [b25, evx_v, evx_k, evx_g, evx_bin, evx_cmp, evx_chn, evx_neg, evx_nt, evx_and, evx_or, evx_ite, evx_tup, evx_lst, evx_nlst, evx_ix, evx_sl, evx_rev, evx_app, evx_join, evx_call, evx_callv, evx_lam, evx_bi, evx_isi, exx_asg, exx_setix, exx_ex, exx_ite, exx_ret, exx_ret0, exx_brk, exx_cnt, exx_pas, exx_rai, Y.b_ok, Y.b_ex, Y.o_ok, Y.o_ex, Y.e_nil, Y.e_cons, Y.eo_none, Y.eo_some, Y.s_nil, Y.s_cons, Y.t_bl, Y.t_int, Y.t_tup, Y.t_lst, Y.t_non, Y.x_and, Y.x_or, Y.x_nt, Y.x_v, Y.x_k, Y.x_cmp, Y.x_chn, Y.x_call, Y.x_callv, Y.x_bi, Y.x_isi, Y.x_exi, Y.x_ix, Y.x_bin, Y.p_n, Y.p_t, Y.p_tl, Y.ps_cons, Y.ps_nil, Y.i_v, Y.i_ix, Y.i_tup, Y.i_lst, Y.i_k, Y.i_bin, Y.i_call, Y.i_sl, Y.i_rev, Y.i_lc, Y.i_rng, Y.i_rng2, Y.i_zip, Y.i_enum, Y.q_t, Y.q_l, Y.q_z, Y.q_zt, Y.q_e, Y.sz, Y.a_int, Y.a_tup, Y.a_lst, Y.su_int, Y.mo_int, Y.mu_intR, Y.mu_intL, Y.fd_intS, Y.po_int, Y.c_lt, Y.c_le, Y.c_gt, Y.c_ge, Y.cc_le, Y.cc_lt, Y.c_isn_n, Y.c_isn_b, Y.c_isn_i, Y.c_isn_s, Y.c_isn_t, Y.c_isn_l, Y.c_nisn_n, Y.c_nisn_b, Y.c_nisn_i, Y.c_nisn_s, Y.c_nisn_t, Y.c_nisn_l, Y.c_eq, Y.c_ne, Y.n_tup, Y.n_lst, Y.n_int, Y.n_abs, Y.n_tt, Y.n_tl, Y.n_lt, Y.n_ll, Y.n_gcd, Y.ix_t0, Y.ix_t1, Y.ix_t2, Y.ix_l0, Y.ix_l1, Y.l_tup, Y.l_lst, Y.r_tup, Y.r_lst, List.map_cons, List.map_nil, List.cons_append, List.nil_append, List.replicate, List.getElem?_cons_zero, List.getElem?_cons_succ, List.length_cons, List.length_nil, List.set_cons_zero, List.set_cons_succ, if_true, Bool.false_eq_true, if_false, Bool.not_true, Bool.not_false, Nat.reduceLeDiff, Nat.reduceAdd, e1, e2, p18, hc, decide_true, hd, m1, mo]
    exact fin _ _
  · refine ⟨⟨0, _, Int.le_refl _, b0⟩, ?_⟩
    rw [ca_x (f := b25) rfl (by decide +kernel) (by decide +kernel) rfl rfl]
    simp only [b25, evx_v, evx_k, evx_g, evx_bin, evx_cmp, evx_chn, evx_neg, evx_nt, evx_and, evx_or, evx_ite, evx_tup, evx_lst, evx_nlst, evx_ix, evx_sl, evx_rev, evx_app, evx_join, evx_call, evx_callv, evx_lam, evx_bi, evx_isi, exx_asg, exx_setix, exx_ex, exx_ite, exx_ret, exx_ret0, exx_brk, exx_cnt, exx_pas, exx_rai, Y.b_ok, Y.b_ex, Y.o_ok, Y.o_ex, Y.e_nil, Y.e_cons, Y.eo_none, Y.eo_some, Y.s_nil, Y.s_cons, Y.t_bl, Y.t_int, Y.t_tup, Y.t_lst, Y.t_non, Y.x_and, Y.x_or, Y.x_nt, Y.x_v, Y.x_k, Y.x_cmp, Y.x_chn, Y.x_call, Y.x_callv, Y.x_bi, Y.x_isi, Y.x_exi, Y.x_ix, Y.x_bin, Y.p_n, Y.p_t, Y.p_tl, Y.ps_cons, Y.ps_nil, Y.i_v, Y.i_ix, Y.i_tup, Y.i_lst, Y.i_k, Y.i_bin, Y.i_call, Y.i_sl, Y.i_rev, Y.i_lc, Y.i_rng, Y.i_rng2, Y.i_zip, Y.i_enum, Y.q_t, Y.q_l, Y.q_z, Y.q_zt, Y.q_e, Y.sz, Y.a_int, Y.a_tup, Y.a_lst, Y.su_int, Y.mo_int, Y.mu_intR, Y.mu_intL, Y.fd_intS, Y.po_int, Y.c_lt, Y.c_le, Y.c_gt, Y.c_ge, Y.cc_le, Y.cc_lt, Y.c_isn_n, Y.c_isn_b, Y.c_isn_i, Y.c_isn_s, Y.c_isn_t, Y.c_isn_l, Y.c_nisn_n, Y.c_nisn_b, Y.c_nisn_i, Y.c_nisn_s, Y.c_nisn_t, Y.c_nisn_l, Y.c_eq, Y.c_ne, Y.n_tup, Y.n_lst, Y.n_int, Y.n_abs, Y.n_tt, Y.n_tl, Y.n_lt, Y.n_ll, Y.n_gcd, Y.ix_t0, Y.ix_t1, Y.ix_t2, Y.ix_l0, Y.ix_l1, Y.l_tup, Y.l_lst, Y.r_tup, Y.r_lst, List.map_cons, List.map_nil, List.cons_append, List.nil_append, List.replicate, List.getElem?_cons_zero, List.getElem?_cons_succ, List.length_cons, List.length_nil, List.set_cons_zero, List.set_cons_succ, if_true, Bool.false_eq_true, if_false, Bool.not_true, Bool.not_false, Nat.reduceLeDiff, Nat.reduceAdd, e1, e2, p18, hc, decide_false, m1, mo]
    exact fin _ _
theorem s_roll {R : Sto} (h : GoodR R) (c : Cp) (m : Int) (hm : 0 < m) (hm2 : m < 1073741824) : ∃ (r : Nat) (c' : Cp), (cl (n + 1)).ca 26 [.ref 0, .int m] (Cup c R) = .ok (.int r) (Cup c' R) ∧ (r : Int) < m := by
  obtain ⟨a, b, ha, hb⟩ := c
  have i0 : ∀ c : Cp, index (.ref 0) (.int 0) (Cup c R) = .ok (.int c.a) (Cup c R) := fun c => rfl
  have i1 : ∀ c : Cp, index (.ref 0) (.int 1) (Cup c R) = .ok (.int c.b) (Cup c R) := fun c => rfl
  have w0 : ∀ (c : Cp) (x : Int) (hx : 0 ≤ x), setAt (.ref 0) (.int 0) (.int x) (Cup c R) = some (Cup ⟨x, c.b, hx, c.hb⟩ R) := fun c x hx => rfl
  have w1 : ∀ (c : Cp) (x : Int) (hx : 0 ≤ x), setAt (.ref 0) (.int 1) (.int x) (Cup c R) = some (Cup ⟨c.a, x, c.ha, hx⟩ R) := fun c x hx => rfl
  rw [ca_x (f := b26) rfl (by decide +kernel) (by decide +kernel) rfl rfl]
  by_cases hp : 0 < a
  · obtain ⟨r, hr⟩ := Int.eq_ofNat_of_zero_le (Int.emod_nonneg a (show m ≠ 0 by omega))
    have hd : 0 ≤ a / m := Int.ediv_nonneg ha (by omega)
    refine ⟨r, ⟨a / m, b, hd, hb⟩, ?_, by rw [← hr]; exact Int.emod_lt_of_pos _ hm⟩
    simp only [b26, evx_v, evx_k, evx_g, evx_bin, evx_cmp, evx_chn, evx_neg, evx_nt, evx_and, evx_or, evx_ite, evx_tup, evx_lst, evx_nlst, evx_ix, evx_sl, evx_rev, evx_app, evx_join, evx_call, evx_callv, evx_lam, evx_bi, evx_isi, exx_asg, exx_setix, exx_ex, exx_ite, exx_ret, exx_ret0, exx_brk, exx_cnt, exx_pas, exx_rai, Y.b_ok, Y.b_ex, Y.o_ok, Y.o_ex, Y.e_nil, Y.e_cons, Y.eo_none, Y.eo_some, Y.s_nil, Y.s_cons, Y.t_bl, Y.t_int, Y.t_tup, Y.t_lst, Y.t_non, Y.x_and, Y.x_or, Y.x_nt, Y.x_v, Y.x_k, Y.x_cmp, Y.x_chn, Y.x_call, Y.x_callv, Y.x_bi, Y.x_isi, Y.x_exi, Y.x_ix, Y.x_bin, Y.p_n, Y.p_t, Y.p_tl, Y.ps_cons, Y.ps_nil, Y.i_v, Y.i_ix, Y.i_tup, Y.i_lst, Y.i_k, Y.i_bin, Y.i_call, Y.i_sl, Y.i_rev, Y.i_lc, Y.i_rng, Y.i_rng2, Y.i_zip, Y.i_enum, Y.q_t, Y.q_l, Y.q_z, Y.q_zt, Y.q_e, Y.sz, Y.a_int, Y.a_tup, Y.a_lst, Y.su_int, Y.mo_int, Y.mu_intR, Y.mu_intL, Y.fd_intS, Y.po_int, Y.c_lt, Y.c_le, Y.c_gt, Y.c_ge, Y.cc_le, Y.cc_lt, Y.c_isn_n, Y.c_isn_b, Y.c_isn_i, Y.c_isn_s, Y.c_isn_t, Y.c_isn_l, Y.c_nisn_n, Y.c_nisn_b, Y.c_nisn_i, Y.c_nisn_s, Y.c_nisn_t, Y.c_nisn_l, Y.c_eq, Y.c_ne, Y.n_tup, Y.n_lst, Y.n_int, Y.n_abs, Y.n_tt, Y.n_tl, Y.n_lt, Y.n_ll, Y.n_gcd, Y.ix_t0, Y.ix_t1, Y.ix_t2, Y.ix_l0, Y.ix_l1, Y.l_tup, Y.l_lst, Y.r_tup, Y.r_lst, List.map_cons, List.map_nil, List.cons_append, List.nil_append, List.replicate, List.getElem?_cons_zero, List.getElem?_cons_succ, List.length_cons, List.length_nil, List.set_cons_zero, List.set_cons_succ, if_true, Bool.false_eq_true, if_false, Bool.not_true, Bool.not_false, Nat.reduceLeDiff, Nat.reduceAdd, i0, hp, decide_true, Y.mo_int _ hm, Y.fd_intS _ hm hm2, w0 _ _ hd, hr]
    exact end_rt (S := Cup ⟨a / m, b, hd, hb⟩ R) (d := .int _) (good_cup h) rfl
  · have b0 : 0 ≤ (b * 19141 + 40277) % 1048576 := Int.emod_nonneg _ (by omega)
    obtain ⟨r, hr⟩ := Int.eq_ofNat_of_zero_le (Int.emod_nonneg ((b * 19141 + 40277) % 1048576 / 113) (show m ≠ 0 by omega))
    refine ⟨r, ⟨a, (b * 19141 + 40277) % 1048576, ha, b0⟩, ?_, by rw [← hr]; exact Int.emod_lt_of_pos _ hm⟩
    simp only [b26, evx_v, evx_k, evx_g, evx_bin, evx_cmp, evx_chn, evx_neg, evx_nt, evx_and, evx_or, evx_ite, evx_tup, evx_lst, evx_nlst, evx_ix, evx_sl, evx_rev, evx_app, evx_join, evx_call, evx_callv, evx_lam, evx_bi, evx_isi, exx_asg, exx_setix, exx_ex, exx_ite, exx_ret, exx_ret0, exx_brk, exx_cnt, exx_pas, exx_rai, Y.b_ok, Y.b_ex, Y.o_ok, Y.o_ex, Y.e_nil, Y.e_cons, Y.eo_none, Y.eo_some, Y.s_nil, Y.s_cons, Y.t_bl, Y.t_int, Y.t_tup, Y.t_lst, Y.t_non, Y.x_and, Y.x_or, Y.x_nt, Y.x_v, Y.x_k, Y.x_cmp, Y.x_chn, Y.x_call, Y.x_callv, Y.x_bi, Y.x_isi, Y.x_exi, Y.x_ix, Y.x_bin, Y.p_n, Y.p_t, Y.p_tl, Y.ps_cons, Y.ps_nil, Y.i_v, Y.i_ix, Y.i_tup, Y.i_lst, Y.i_k, Y.i_bin, Y.i_call, Y.i_sl, Y.i_rev, Y.i_lc, Y.i_rng, Y.i_rng2, Y.i_zip, Y.i_enum, Y.q_t, Y.q_l, Y.q_z, Y.q_zt, Y.q_e, Y.sz, Y.a_int, Y.a_tup, Y.a_lst, Y.su_int, Y.mo_int, Y.mu_intR, Y.mu_intL, Y.fd_intS, Y.po_int, Y.c_lt, Y.c_le, Y.c_gt, Y.c_ge, Y.cc_le, Y.cc_lt, Y.c_isn_n, Y.c_isn_b, Y.c_isn_i, Y.c_isn_s, Y.c_isn_t, Y.c_isn_l, Y.c_nisn_n, Y.c_nisn_b, Y.c_nisn_i, Y.c_nisn_s, Y.c_nisn_t, Y.c_nisn_l, Y.c_eq, Y.c_ne, Y.n_tup, Y.n_lst, Y.n_int, Y.n_abs, Y.n_tt, Y.n_tl, Y.n_lt, Y.n_ll, Y.n_gcd, Y.ix_t0, Y.ix_t1, Y.ix_t2, Y.ix_l0, Y.ix_l1, Y.l_tup, Y.l_lst, Y.r_tup, Y.r_lst, List.map_cons, List.map_nil, List.cons_append, List.nil_append, List.replicate, List.getElem?_cons_zero, List.getElem?_cons_succ, List.length_cons, List.length_nil, List.set_cons_zero, List.set_cons_succ, if_true, Bool.false_eq_true, if_false, Bool.not_true, Bool.not_false, Nat.reduceLeDiff, Nat.reduceAdd, i0, i1, hp, decide_false, Y.mu_intR _ (show (-18446744073709551616 : Int) < 19141 by decide) (by decide), Y.mo_int _ hm, Y.mo_int _ (show (0 : Int) < 1048576 by decide), Y.fd_intS _ (show (0 : Int) < 113 by decide) (by decide), w1 _ _ b0, hr]
    exact end_rt (S := Cup ⟨a, (b * 19141 + 40277) % 1048576, ha, b0⟩ R) (d := .int _) (good_cup h) rfl
end
end K47
end
section
set_option Elab.async false
set_option linter.all false
set_option maxRecDepth 100000
set_option autoImplicit false
namespace K47
open IT
open PySem (PyData)
/-! orders among orders -/
def pe (o : Od) : PyData := dOf (en o)
theorem pe_pure (o : Od) : D.pure? (en o) = some (pe o) := by cases o <;> rfl
theorem pe_pures : ∀ l : List Od, D.pures? (l.map en) = some (l.map pe)
  | [] => rfl
  | o :: l => by rw [List.map_cons, D.pures?, pe_pure, pe_pures l]; rfl
theorem pe_eqv (x o : Od) : PyData.eqv (pe x) (pe o) = decide (x = o) := by cases x <;> cases o <;> kernel_rfl
theorem pe_lay (o : Od) : (pe o).canLay0 = true ∧ (pe o).depth ≤ 2 := by cases o <;> decide +kernel
theorem pe_lays : ∀ l : List Od, PyData.canLayAll0 (l.map pe) = true
  | [] => by simp [PyData.canLayAll0]
  | o :: l => by rw [List.map_cons, PyData.canLayAll0, (pe_lay o).1, pe_lays l]; rfl
theorem pe_any (o : Od) : ∀ l : List Od, (l.map pe).any (fun z => PyData.eqv z (pe o)) = decide (o ∈ l)
  | [] => by simp
  | x :: l => by
    rw [List.map_cons, List.any_cons, pe_any o l, pe_eqv]
    by_cases h : x = o
    · subst h; simp
    · have h' : ¬ o = x := fun z => h z.symm
      simp [h, h']
theorem in_en (S : Sto) (o : Od) (l : List Od) : inD S (en o) (.tup (l.map en)) = some (decide (o ∈ l)) := by
  have h1 : inD S (en o) (.tup (l.map en)) = inAny (en o) (l.map en) := by cases o <;> kernel_rfl
  rw [h1]
  unfold inAny
  rw [pe_pure, pe_pures]
  show (if _ then _ else _) = _
  rw [if_pos ⟨pe_lays l, (pe_lay o).1, Nat.le_trans (pe_lay o).2 (by decide)⟩, pe_any]
theorem c_in (S : Sto) (o : Od) (l : List Od) : cmpR .in_ (en o) (.tup (l.map en)) S = .ok (.bl (decide (o ∈ l))) S := by
  show (match inD S (en o) (.tup (l.map en)) with | some b => R.ok (D.bl b) S | none => .bad) = _
  rw [in_en]
theorem c_notin (S : Sto) (o : Od) (l : List Od) : cmpR .notin (en o) (.tup (l.map en)) S = .ok (.bl (!decide (o ∈ l))) S := by
  show (match (inD S (en o) (.tup (l.map en))).map not with | some b => R.ok (D.bl b) S | none => .bad) = _
  rw [in_en]
  rfl
theorem pe_deps : ∀ l : List Od, PyData.depthAll (l.map pe) ≤ 2
  | [] => by simp [PyData.depthAll]
  | o :: l => by
    rw [List.map_cons, PyData.depthAll]
    have := pe_deps l
    have := (pe_lay o).2
    omega
theorem c_ne (S : Sto) (l : List Od) : cmpR .ne (.lst (l.map en)) (.lst []) S = .ok (.bl (!l.isEmpty)) S := by
  have h1 : eqD S (.lst (l.map en)) (.lst []) = some l.isEmpty := by
    unfold eqD
    have a1 : dataOf S (.lst (l.map en)) = some (.list (l.map pe)) := by
      show (D.pures? (l.map en)).map PyData.list = _
      rw [pe_pures]
      rfl
    have a2 : dataOf S (.lst []) = some (.list []) := rfl
    rw [a1, a2]
    have s1 : PySem.SeqAt.shaped (.list (l.map pe)) = true := by
      unfold PySem.SeqAt.shaped
      rw [PyData.canLay0, pe_lays, Bool.true_and, decide_eq_true_eq, PyData.depth]
      have := pe_deps l
      omega
    show (if _ then _ else _) = _
    rw [if_pos ⟨s1, by decide +kernel⟩]
    cases l with
    | nil => decide +kernel
    | cons x l => simp [PyData.eqv, PyData.eqvAll]
  show (match (eqD S (.lst (l.map en)) (.lst [])).map not with | some b => R.ok (D.bl b) S | none => .bad) = _
  rw [h1]
  rfl
/-! faults -/
def fO (os : List Od) (at_ : Nat) (o : Od) (ns : List Od) : Option D :=
  if o ∈ os.take at_ then some (.tup [.int at_, .str ("twice" : PySem.Str)]) else match ns.filter (fun x => !decide (x ∈ os.take at_)) with
    | [] => none
    | l :: _ => some (.tup [.int at_, .str ("need" : PySem.Str), en l])
def fA (w : Nat) (os : List Od) (at_ : Nat) : Option D := match os[at_]? with
  | none => none
  | some o => match nd w o with
    | none => some (.tup [.int at_, .str ("none" : PySem.Str)])
    | some ns => fO os at_ o ns
def encO : Option D → D
  | none => .non
  | some d => d
def fF (w : Nat) (os : List Od) : Option D := (List.range os.length).findSome? (fA w os)
def OkF (d : D) : Prop := (∃ xs, d = .tup xs) ∧ D.under 1 d = true ∧ d.pv = true ∧ d.dp ≤ 2
theorem okF1 (i : Nat) : OkF (.tup [.int i, .str ("none" : PySem.Str)]) := ⟨⟨_, rfl⟩, rfl, by kernel_rfl, Nat.le_of_ble_eq_true (by kernel_rfl)⟩
theorem okF2 (i : Nat) : OkF (.tup [.int i, .str ("twice" : PySem.Str)]) := ⟨⟨_, rfl⟩, rfl, by kernel_rfl, Nat.le_of_ble_eq_true (by kernel_rfl)⟩
theorem okF3 (i : Nat) (l : Od) : OkF (.tup [.int i, .str ("need" : PySem.Str), en l]) := by
  cases l <;> exact ⟨⟨_, rfl⟩, rfl, by kernel_rfl, Nat.le_of_ble_eq_true (by kernel_rfl)⟩
theorem fA_form {w : Nat} {os : List Od} {i : Nat} {d : D} (h : fA w os i = some d) : OkF d := by
  unfold fA at h
  cases ho : os[i]? with
  | none => rw [ho] at h; cases h
  | some o =>
    rw [ho] at h
    cases hn : nd w o with
    | none =>
      simp only [hn, Option.some.injEq] at h
      rw [← h]
      exact okF1 i
    | some ns =>
      simp only [hn] at h
      unfold fO at h
      by_cases h1 : o ∈ os.take i
      · rw [if_pos h1] at h
        cases h
        exact okF2 i
      · rw [if_neg h1] at h
        cases hf : ns.filter (fun x => !decide (x ∈ os.take i)) with
        | nil => rw [hf] at h; cases h
        | cons l r =>
          rw [hf] at h
          cases h
          exact okF3 i l
theorem fA_n {w : Nat} {os : List Od} {i : Nat} {o : Od} (ho : os[i]? = some o) (hn : nd w o = none) : fA w os i = some (.tup [.int i, .str ("none" : PySem.Str)]) := by simp only [fA, ho, hn]
theorem fA_s {w : Nat} {os : List Od} {i : Nat} {o : Od} {ns : List Od} (ho : os[i]? = some o) (hn : nd w o = some ns) : fA w os i = fO os i o ns := by simp only [fA, ho, hn]
theorem nd_small (w : Nat) (o : Od) (ns : List Od) (h : nd w o = some ns) : ns.length ≤ 8 := by
  have hw : (wds w).length ≤ 3 := by
    unfold wds
    split <;> simp
  cases o <;> simp only [nd] at h
  all_goals first
    | (split at h <;> cases h; simp; done)
    | (cases h; simp; done)
    | (cases h; simp only [List.length_append]; simp; omega)
section
variable {n : Nat} {c : Cp}
theorem gC : GoodS (Cup c []) := good_cup goodR_nil
theorem s_is_tuple_ok {S : Sto} (h : GoodS S) (xs : List D) (lo hi : Int) (h1 : lo ≤ xs.length) (h2 : (xs.length : Int) ≤ hi) : (cl (n + 1)).ca 1 [.tup xs, .int lo, .int hi] S = .ok (.bl true) S := by
  rw [ca_x (f := b1) rfl (by decide +kernel) (by decide +kernel) rfl rfl]
  simp only [b1, evx_v, evx_k, evx_g, evx_bin, evx_cmp, evx_chn, evx_neg, evx_nt, evx_and, evx_or, evx_ite, evx_tup, evx_lst, evx_nlst, evx_ix, evx_sl, evx_rev, evx_app, evx_join, evx_call, evx_callv, evx_lam, evx_bi, evx_isi, exx_asg, exx_setix, exx_ex, exx_ite, exx_ret, exx_ret0, exx_brk, exx_cnt, exx_pas, exx_rai, Y.b_ok, Y.b_ex, Y.o_ok, Y.o_ex, Y.e_nil, Y.e_cons, Y.eo_none, Y.eo_some, Y.s_nil, Y.s_cons, Y.t_bl, Y.t_int, Y.t_tup, Y.t_lst, Y.t_non, Y.x_and, Y.x_or, Y.x_nt, Y.x_v, Y.x_k, Y.x_cmp, Y.x_chn, Y.x_call, Y.x_callv, Y.x_bi, Y.x_isi, Y.x_exi, Y.x_ix, Y.x_bin, Y.p_n, Y.p_t, Y.p_tl, Y.ps_cons, Y.ps_nil, Y.i_v, Y.i_ix, Y.i_tup, Y.i_lst, Y.i_k, Y.i_bin, Y.i_call, Y.i_sl, Y.i_rev, Y.i_lc, Y.i_rng, Y.i_rng2, Y.i_zip, Y.i_enum, Y.q_t, Y.q_l, Y.q_z, Y.q_zt, Y.q_e, Y.sz, Y.a_int, Y.a_tup, Y.a_lst, Y.su_int, Y.mo_int, Y.mu_intR, Y.mu_intL, Y.fd_intS, Y.po_int, Y.c_lt, Y.c_le, Y.c_gt, Y.c_ge, Y.cc_le, Y.cc_lt, Y.c_isn_n, Y.c_isn_b, Y.c_isn_i, Y.c_isn_s, Y.c_isn_t, Y.c_isn_l, Y.c_nisn_n, Y.c_nisn_b, Y.c_nisn_i, Y.c_nisn_s, Y.c_nisn_t, Y.c_nisn_l, Y.c_eq, Y.c_ne, Y.n_tup, Y.n_lst, Y.n_int, Y.n_abs, Y.n_tt, Y.n_tl, Y.n_lt, Y.n_ll, Y.n_gcd, Y.ix_t0, Y.ix_t1, Y.ix_t2, Y.ix_l0, Y.ix_l1, Y.l_tup, Y.l_lst, Y.r_tup, Y.r_lst, List.map_cons, List.map_nil, List.cons_append, List.nil_append, List.replicate, List.getElem?_cons_zero, List.getElem?_cons_succ, List.length_cons, List.length_nil, List.set_cons_zero, List.set_cons_succ, if_true, Bool.false_eq_true, if_false, Bool.not_true, Bool.not_false, Nat.reduceLeDiff, Nat.reduceAdd, IT.is_int_int, IT.is_int_bool, IT.is_int_tuple, IT.is_int_list, IT.is_int_str, IT.is_bl_int, IT.is_bl_bool, IT.is_bl_tuple, IT.is_bl_list, IT.is_bl_str, IT.is_str_int, IT.is_str_bool, IT.is_str_tuple, IT.is_str_list, IT.is_str_str, IT.is_tup_int, IT.is_tup_bool, IT.is_tup_tuple, IT.is_tup_list, IT.is_tup_str, IT.is_lst_int, IT.is_lst_bool, IT.is_lst_tuple, IT.is_lst_list, IT.is_lst_str, IT.is_non_int, IT.is_non_bool, IT.is_non_tuple, IT.is_non_list, IT.is_non_str, h1, decide_true, h2]
  exact end_rt (d := .bl _) h rfl
theorem s_code (os : List Od) (hl : os.length ≤ 50) : (cl (n + 3)).ca 14 [.tup (os.map en)] (Cup c []) = .ok (.bl true) (Cup c []) := by
  have e1 := s_is_tuple_ok (n := n + 1) (gC (c := c)) (os.map en) 0 50 (by omega) (by simp; omega)
  have e2 := lc_map (c := cl (n + 2)) (G := LL.G) (δ := [some (.tup (os.map en)), none, none]) (S := Cup c []) (S1 := Cup c []) (it := .v 0) (tg := .n 2) (own := [1, 2]) (elt := .call 13 [(.v 2)]) (gs := []) (enc := en) (ys := os) (fun _ => .bl true) (by simp only [evx_v, evx_k, evx_g, evx_bin, evx_cmp, evx_chn, evx_neg, evx_nt, evx_and, evx_or, evx_ite, evx_tup, evx_lst, evx_nlst, evx_ix, evx_sl, evx_rev, evx_app, evx_join, evx_call, evx_callv, evx_lam, evx_bi, evx_isi, exx_asg, exx_setix, exx_ex, exx_ite, exx_ret, exx_ret0, exx_brk, exx_cnt, exx_pas, exx_rai, Y.b_ok, Y.b_ex, Y.o_ok, Y.o_ex, Y.e_nil, Y.e_cons, Y.eo_none, Y.eo_some, Y.s_nil, Y.s_cons, Y.t_bl, Y.t_int, Y.t_tup, Y.t_lst, Y.t_non, Y.x_and, Y.x_or, Y.x_nt, Y.x_v, Y.x_k, Y.x_cmp, Y.x_chn, Y.x_call, Y.x_callv, Y.x_bi, Y.x_isi, Y.x_exi, Y.x_ix, Y.x_bin, Y.p_n, Y.p_t, Y.p_tl, Y.ps_cons, Y.ps_nil, Y.i_v, Y.i_ix, Y.i_tup, Y.i_lst, Y.i_k, Y.i_bin, Y.i_call, Y.i_sl, Y.i_rev, Y.i_lc, Y.i_rng, Y.i_rng2, Y.i_zip, Y.i_enum, Y.q_t, Y.q_l, Y.q_z, Y.q_zt, Y.q_e, Y.sz, Y.a_int, Y.a_tup, Y.a_lst, Y.su_int, Y.mo_int, Y.mu_intR, Y.mu_intL, Y.fd_intS, Y.po_int, Y.c_lt, Y.c_le, Y.c_gt, Y.c_ge, Y.cc_le, Y.cc_lt, Y.c_isn_n, Y.c_isn_b, Y.c_isn_i, Y.c_isn_s, Y.c_isn_t, Y.c_isn_l, Y.c_nisn_n, Y.c_nisn_b, Y.c_nisn_i, Y.c_nisn_s, Y.c_nisn_t, Y.c_nisn_l, Y.c_eq, Y.c_ne, Y.n_tup, Y.n_lst, Y.n_int, Y.n_abs, Y.n_tt, Y.n_tl, Y.n_lt, Y.n_ll, Y.n_gcd, Y.ix_t0, Y.ix_t1, Y.ix_t2, Y.ix_l0, Y.ix_l1, Y.l_tup, Y.l_lst, Y.r_tup, Y.r_lst, List.map_cons, List.map_nil, List.cons_append, List.nil_append, List.replicate, List.getElem?_cons_zero, List.getElem?_cons_succ, List.length_cons, List.length_nil, List.set_cons_zero, List.set_cons_succ, if_true, Bool.false_eq_true, if_false, Bool.not_true, Bool.not_false, Nat.reduceLeDiff, Nat.reduceAdd]) rfl (by omega) (fun y _ => ⟨_, Y.p_n _ _ _ _, by simp only [wipeD, evx_v, evx_k, evx_g, evx_bin, evx_cmp, evx_chn, evx_neg, evx_nt, evx_and, evx_or, evx_ite, evx_tup, evx_lst, evx_nlst, evx_ix, evx_sl, evx_rev, evx_app, evx_join, evx_call, evx_callv, evx_lam, evx_bi, evx_isi, exx_asg, exx_setix, exx_ex, exx_ite, exx_ret, exx_ret0, exx_brk, exx_cnt, exx_pas, exx_rai, Y.b_ok, Y.b_ex, Y.o_ok, Y.o_ex, Y.e_nil, Y.e_cons, Y.eo_none, Y.eo_some, Y.s_nil, Y.s_cons, Y.t_bl, Y.t_int, Y.t_tup, Y.t_lst, Y.t_non, Y.x_and, Y.x_or, Y.x_nt, Y.x_v, Y.x_k, Y.x_cmp, Y.x_chn, Y.x_call, Y.x_callv, Y.x_bi, Y.x_isi, Y.x_exi, Y.x_ix, Y.x_bin, Y.p_n, Y.p_t, Y.p_tl, Y.ps_cons, Y.ps_nil, Y.i_v, Y.i_ix, Y.i_tup, Y.i_lst, Y.i_k, Y.i_bin, Y.i_call, Y.i_sl, Y.i_rev, Y.i_lc, Y.i_rng, Y.i_rng2, Y.i_zip, Y.i_enum, Y.q_t, Y.q_l, Y.q_z, Y.q_zt, Y.q_e, Y.sz, Y.a_int, Y.a_tup, Y.a_lst, Y.su_int, Y.mo_int, Y.mu_intR, Y.mu_intL, Y.fd_intS, Y.po_int, Y.c_lt, Y.c_le, Y.c_gt, Y.c_ge, Y.cc_le, Y.cc_lt, Y.c_isn_n, Y.c_isn_b, Y.c_isn_i, Y.c_isn_s, Y.c_isn_t, Y.c_isn_l, Y.c_nisn_n, Y.c_nisn_b, Y.c_nisn_i, Y.c_nisn_s, Y.c_nisn_t, Y.c_nisn_l, Y.c_eq, Y.c_ne, Y.n_tup, Y.n_lst, Y.n_int, Y.n_abs, Y.n_tt, Y.n_tl, Y.n_lt, Y.n_ll, Y.n_gcd, Y.ix_t0, Y.ix_t1, Y.ix_t2, Y.ix_l0, Y.ix_l1, Y.l_tup, Y.l_lst, Y.r_tup, Y.r_lst, List.map_cons, List.map_nil, List.cons_append, List.nil_append, List.replicate, List.getElem?_cons_zero, List.getElem?_cons_succ, List.length_cons, List.length_nil, List.set_cons_zero, List.set_cons_succ, if_true, Bool.false_eq_true, if_false, Bool.not_true, Bool.not_false, Nat.reduceLeDiff, Nat.reduceAdd, kn0, kn1, kn2, kn3, kn4, kn5, kn6, kn7, kn8, kn9, kn10, kn11, kn12, kn13, kn14, kn15, kn16, kn17, kn18, kn19, kn20, kn21, kn22, kn23, kn24, kn25, kn26, kn27, kn28, kn29, kn30, kn31, kn32, kn33, kn34, kn35, kn37, kn38, kn39, t_order c n y]⟩)
  have e3 := Y.n_allm (Cup c []) (fun _ : Od => true) os
  have e4 : os.all (fun _ => true) = true := by simp
  rw [e4] at e3
  rw [ca_x (f := b14) rfl (by decide +kernel) (by decide +kernel) rfl rfl]
  simp only [b14, evx_v, evx_k, evx_g, evx_bin, evx_cmp, evx_chn, evx_neg, evx_nt, evx_and, evx_or, evx_ite, evx_tup, evx_lst, evx_nlst, evx_ix, evx_sl, evx_rev, evx_app, evx_join, evx_call, evx_callv, evx_lam, evx_bi, evx_isi, exx_asg, exx_setix, exx_ex, exx_ite, exx_ret, exx_ret0, exx_brk, exx_cnt, exx_pas, exx_rai, Y.b_ok, Y.b_ex, Y.o_ok, Y.o_ex, Y.e_nil, Y.e_cons, Y.eo_none, Y.eo_some, Y.s_nil, Y.s_cons, Y.t_bl, Y.t_int, Y.t_tup, Y.t_lst, Y.t_non, Y.x_and, Y.x_or, Y.x_nt, Y.x_v, Y.x_k, Y.x_cmp, Y.x_chn, Y.x_call, Y.x_callv, Y.x_bi, Y.x_isi, Y.x_exi, Y.x_ix, Y.x_bin, Y.p_n, Y.p_t, Y.p_tl, Y.ps_cons, Y.ps_nil, Y.i_v, Y.i_ix, Y.i_tup, Y.i_lst, Y.i_k, Y.i_bin, Y.i_call, Y.i_sl, Y.i_rev, Y.i_lc, Y.i_rng, Y.i_rng2, Y.i_zip, Y.i_enum, Y.q_t, Y.q_l, Y.q_z, Y.q_zt, Y.q_e, Y.sz, Y.a_int, Y.a_tup, Y.a_lst, Y.su_int, Y.mo_int, Y.mu_intR, Y.mu_intL, Y.fd_intS, Y.po_int, Y.c_lt, Y.c_le, Y.c_gt, Y.c_ge, Y.cc_le, Y.cc_lt, Y.c_isn_n, Y.c_isn_b, Y.c_isn_i, Y.c_isn_s, Y.c_isn_t, Y.c_isn_l, Y.c_nisn_n, Y.c_nisn_b, Y.c_nisn_i, Y.c_nisn_s, Y.c_nisn_t, Y.c_nisn_l, Y.c_eq, Y.c_ne, Y.n_tup, Y.n_lst, Y.n_int, Y.n_abs, Y.n_tt, Y.n_tl, Y.n_lt, Y.n_ll, Y.n_gcd, Y.ix_t0, Y.ix_t1, Y.ix_t2, Y.ix_l0, Y.ix_l1, Y.l_tup, Y.l_lst, Y.r_tup, Y.r_lst, List.map_cons, List.map_nil, List.cons_append, List.nil_append, List.replicate, List.getElem?_cons_zero, List.getElem?_cons_succ, List.length_cons, List.length_nil, List.set_cons_zero, List.set_cons_succ, if_true, Bool.false_eq_true, if_false, Bool.not_true, Bool.not_false, Nat.reduceLeDiff, Nat.reduceAdd, kn0, kn1, kn2, kn3, kn4, kn5, kn6, kn7, kn8, kn9, kn10, kn11, kn12, kn13, kn14, kn15, kn16, kn17, kn18, kn19, kn20, kn21, kn22, kn23, kn24, kn25, kn26, kn27, kn28, kn29, kn30, kn31, kn32, kn33, kn34, kn35, kn37, kn38, kn39, e1, e2, e3]
  exact end_rt (d := .bl _) gC rfl
theorem s_need_code (os : List Od) (hl : os.length ≤ 50) : (cl (n + 4)).ca 15 [.tup (os.map en)] (Cup c []) = .ok .non (Cup c []) := by
  have e1 := s_code (n := n) (c := c) os hl
  rw [ca_x (f := b15) rfl (by decide +kernel) (by decide +kernel) rfl rfl]
  simp only [b15, evx_v, evx_k, evx_g, evx_bin, evx_cmp, evx_chn, evx_neg, evx_nt, evx_and, evx_or, evx_ite, evx_tup, evx_lst, evx_nlst, evx_ix, evx_sl, evx_rev, evx_app, evx_join, evx_call, evx_callv, evx_lam, evx_bi, evx_isi, exx_asg, exx_setix, exx_ex, exx_ite, exx_ret, exx_ret0, exx_brk, exx_cnt, exx_pas, exx_rai, Y.b_ok, Y.b_ex, Y.o_ok, Y.o_ex, Y.e_nil, Y.e_cons, Y.eo_none, Y.eo_some, Y.s_nil, Y.s_cons, Y.t_bl, Y.t_int, Y.t_tup, Y.t_lst, Y.t_non, Y.x_and, Y.x_or, Y.x_nt, Y.x_v, Y.x_k, Y.x_cmp, Y.x_chn, Y.x_call, Y.x_callv, Y.x_bi, Y.x_isi, Y.x_exi, Y.x_ix, Y.x_bin, Y.p_n, Y.p_t, Y.p_tl, Y.ps_cons, Y.ps_nil, Y.i_v, Y.i_ix, Y.i_tup, Y.i_lst, Y.i_k, Y.i_bin, Y.i_call, Y.i_sl, Y.i_rev, Y.i_lc, Y.i_rng, Y.i_rng2, Y.i_zip, Y.i_enum, Y.q_t, Y.q_l, Y.q_z, Y.q_zt, Y.q_e, Y.sz, Y.a_int, Y.a_tup, Y.a_lst, Y.su_int, Y.mo_int, Y.mu_intR, Y.mu_intL, Y.fd_intS, Y.po_int, Y.c_lt, Y.c_le, Y.c_gt, Y.c_ge, Y.cc_le, Y.cc_lt, Y.c_isn_n, Y.c_isn_b, Y.c_isn_i, Y.c_isn_s, Y.c_isn_t, Y.c_isn_l, Y.c_nisn_n, Y.c_nisn_b, Y.c_nisn_i, Y.c_nisn_s, Y.c_nisn_t, Y.c_nisn_l, Y.c_eq, Y.c_ne, Y.n_tup, Y.n_lst, Y.n_int, Y.n_abs, Y.n_tt, Y.n_tl, Y.n_lt, Y.n_ll, Y.n_gcd, Y.ix_t0, Y.ix_t1, Y.ix_t2, Y.ix_l0, Y.ix_l1, Y.l_tup, Y.l_lst, Y.r_tup, Y.r_lst, List.map_cons, List.map_nil, List.cons_append, List.nil_append, List.replicate, List.getElem?_cons_zero, List.getElem?_cons_succ, List.length_cons, List.length_nil, List.set_cons_zero, List.set_cons_succ, if_true, Bool.false_eq_true, if_false, Bool.not_true, Bool.not_false, Nat.reduceLeDiff, Nat.reduceAdd, kn0, kn1, kn2, kn3, kn4, kn5, kn6, kn7, kn8, kn9, kn10, kn11, kn12, kn13, kn14, kn15, kn16, kn17, kn18, kn19, kn20, kn21, kn22, kn23, kn24, kn25, kn26, kn27, kn28, kn29, kn30, kn31, kn32, kn33, kn34, kn35, kn37, kn38, kn39, e1]
  exact end_nx gC
theorem s_is_code (os : List Od) (hl : os.length ≤ 50) : (cl (n + 4)).ca 21 [.tup (os.map en)] (Cup c []) = .ok (.bl true) (Cup c []) := by
  have e1 := s_code (n := n) (c := c) os hl
  rw [ca_x (f := b21) rfl (by decide +kernel) (by decide +kernel) rfl rfl]
  simp only [b21, evx_v, evx_k, evx_g, evx_bin, evx_cmp, evx_chn, evx_neg, evx_nt, evx_and, evx_or, evx_ite, evx_tup, evx_lst, evx_nlst, evx_ix, evx_sl, evx_rev, evx_app, evx_join, evx_call, evx_callv, evx_lam, evx_bi, evx_isi, exx_asg, exx_setix, exx_ex, exx_ite, exx_ret, exx_ret0, exx_brk, exx_cnt, exx_pas, exx_rai, Y.b_ok, Y.b_ex, Y.o_ok, Y.o_ex, Y.e_nil, Y.e_cons, Y.eo_none, Y.eo_some, Y.s_nil, Y.s_cons, Y.t_bl, Y.t_int, Y.t_tup, Y.t_lst, Y.t_non, Y.x_and, Y.x_or, Y.x_nt, Y.x_v, Y.x_k, Y.x_cmp, Y.x_chn, Y.x_call, Y.x_callv, Y.x_bi, Y.x_isi, Y.x_exi, Y.x_ix, Y.x_bin, Y.p_n, Y.p_t, Y.p_tl, Y.ps_cons, Y.ps_nil, Y.i_v, Y.i_ix, Y.i_tup, Y.i_lst, Y.i_k, Y.i_bin, Y.i_call, Y.i_sl, Y.i_rev, Y.i_lc, Y.i_rng, Y.i_rng2, Y.i_zip, Y.i_enum, Y.q_t, Y.q_l, Y.q_z, Y.q_zt, Y.q_e, Y.sz, Y.a_int, Y.a_tup, Y.a_lst, Y.su_int, Y.mo_int, Y.mu_intR, Y.mu_intL, Y.fd_intS, Y.po_int, Y.c_lt, Y.c_le, Y.c_gt, Y.c_ge, Y.cc_le, Y.cc_lt, Y.c_isn_n, Y.c_isn_b, Y.c_isn_i, Y.c_isn_s, Y.c_isn_t, Y.c_isn_l, Y.c_nisn_n, Y.c_nisn_b, Y.c_nisn_i, Y.c_nisn_s, Y.c_nisn_t, Y.c_nisn_l, Y.c_eq, Y.c_ne, Y.n_tup, Y.n_lst, Y.n_int, Y.n_abs, Y.n_tt, Y.n_tl, Y.n_lt, Y.n_ll, Y.n_gcd, Y.ix_t0, Y.ix_t1, Y.ix_t2, Y.ix_l0, Y.ix_l1, Y.l_tup, Y.l_lst, Y.r_tup, Y.r_lst, List.map_cons, List.map_nil, List.cons_append, List.nil_append, List.replicate, List.getElem?_cons_zero, List.getElem?_cons_succ, List.length_cons, List.length_nil, List.set_cons_zero, List.set_cons_succ, if_true, Bool.false_eq_true, if_false, Bool.not_true, Bool.not_false, Nat.reduceLeDiff, Nat.reduceAdd, kn0, kn1, kn2, kn3, kn4, kn5, kn6, kn7, kn8, kn9, kn10, kn11, kn12, kn13, kn14, kn15, kn16, kn17, kn18, kn19, kn20, kn21, kn22, kn23, kn24, kn25, kn26, kn27, kn28, kn29, kn30, kn31, kn32, kn33, kn34, kn35, kn37, kn38, kn39, e1]
  exact end_rt (d := .bl _) gC rfl
theorem cut_en (os : List Od) (k : Nat) : cutD (os.map en) none (some (k : Int)) = (os.take k).map en := by rw [Y.cut_take, List.map_take]
theorem s_fault_at (w : Nat) (hw : w < 4) (os : List Od) (i : Nat) (hi : i < os.length) : (cl (n + 3)).ca 18 [stD w, .tup (os.map en), .int i] (Cup c []) = .ok (encO (fA w os i)) (Cup c []) := by
  obtain ⟨o, ho⟩ : ∃ o, os[i]? = some o := ⟨os[i], List.getElem?_eq_getElem hi⟩
  have e1 : index (.tup (os.map en)) (.int i) (Cup c []) = .ok (en o) (Cup c []) := by
    rw [Y.ix_t, List.getElem?_map, ho]
    rfl
  have e2 := t_needs c (n := n) w hw o
  rw [ca_x (f := b18) rfl (by decide +kernel) (by decide +kernel) rfl rfl]
  cases hn : nd w o with
  | none =>
    rw [hn] at e2
    simp only [encL] at e2
    rw [fA_n ho hn]
    simp only [b18, evx_v, evx_k, evx_g, evx_bin, evx_cmp, evx_chn, evx_neg, evx_nt, evx_and, evx_or, evx_ite, evx_tup, evx_lst, evx_nlst, evx_ix, evx_sl, evx_rev, evx_app, evx_join, evx_call, evx_callv, evx_lam, evx_bi, evx_isi, exx_asg, exx_setix, exx_ex, exx_ite, exx_ret, exx_ret0, exx_brk, exx_cnt, exx_pas, exx_rai, Y.b_ok, Y.b_ex, Y.o_ok, Y.o_ex, Y.e_nil, Y.e_cons, Y.eo_none, Y.eo_some, Y.s_nil, Y.s_cons, Y.t_bl, Y.t_int, Y.t_tup, Y.t_lst, Y.t_non, Y.x_and, Y.x_or, Y.x_nt, Y.x_v, Y.x_k, Y.x_cmp, Y.x_chn, Y.x_call, Y.x_callv, Y.x_bi, Y.x_isi, Y.x_exi, Y.x_ix, Y.x_bin, Y.p_n, Y.p_t, Y.p_tl, Y.ps_cons, Y.ps_nil, Y.i_v, Y.i_ix, Y.i_tup, Y.i_lst, Y.i_k, Y.i_bin, Y.i_call, Y.i_sl, Y.i_rev, Y.i_lc, Y.i_rng, Y.i_rng2, Y.i_zip, Y.i_enum, Y.q_t, Y.q_l, Y.q_z, Y.q_zt, Y.q_e, Y.sz, Y.a_int, Y.a_tup, Y.a_lst, Y.su_int, Y.mo_int, Y.mu_intR, Y.mu_intL, Y.fd_intS, Y.po_int, Y.c_lt, Y.c_le, Y.c_gt, Y.c_ge, Y.cc_le, Y.cc_lt, Y.c_isn_n, Y.c_isn_b, Y.c_isn_i, Y.c_isn_s, Y.c_isn_t, Y.c_isn_l, Y.c_nisn_n, Y.c_nisn_b, Y.c_nisn_i, Y.c_nisn_s, Y.c_nisn_t, Y.c_nisn_l, Y.c_eq, Y.c_ne, Y.n_tup, Y.n_lst, Y.n_int, Y.n_abs, Y.n_tt, Y.n_tl, Y.n_lt, Y.n_ll, Y.n_gcd, Y.ix_t0, Y.ix_t1, Y.ix_t2, Y.ix_l0, Y.ix_l1, Y.l_tup, Y.l_lst, Y.r_tup, Y.r_lst, List.map_cons, List.map_nil, List.cons_append, List.nil_append, List.replicate, List.getElem?_cons_zero, List.getElem?_cons_succ, List.length_cons, List.length_nil, List.set_cons_zero, List.set_cons_succ, if_true, Bool.false_eq_true, if_false, Bool.not_true, Bool.not_false, Nat.reduceLeDiff, Nat.reduceAdd, kn0, kn1, kn2, kn3, kn4, kn5, kn6, kn7, kn8, kn9, kn10, kn11, kn12, kn13, kn14, kn15, kn16, kn17, kn18, kn19, kn20, kn21, kn22, kn23, kn24, kn25, kn26, kn27, kn28, kn29, kn30, kn31, kn32, kn33, kn34, kn35, kn37, kn38, kn39, e1, e2]
    exact end_rt gC (okF1 i).2.1
  | some ns =>
    rw [hn] at e2
    simp only [encL] at e2
    rw [fA_s ho hn]
    have e3 := c_in (Cup c []) o (os.take i)
    unfold fO
    by_cases h1 : o ∈ os.take i
    · simp only [h1, decide_true] at e3
      rw [if_pos h1]
      simp only [b18, evx_v, evx_k, evx_g, evx_bin, evx_cmp, evx_chn, evx_neg, evx_nt, evx_and, evx_or, evx_ite, evx_tup, evx_lst, evx_nlst, evx_ix, evx_sl, evx_rev, evx_app, evx_join, evx_call, evx_callv, evx_lam, evx_bi, evx_isi, exx_asg, exx_setix, exx_ex, exx_ite, exx_ret, exx_ret0, exx_brk, exx_cnt, exx_pas, exx_rai, Y.b_ok, Y.b_ex, Y.o_ok, Y.o_ex, Y.e_nil, Y.e_cons, Y.eo_none, Y.eo_some, Y.s_nil, Y.s_cons, Y.t_bl, Y.t_int, Y.t_tup, Y.t_lst, Y.t_non, Y.x_and, Y.x_or, Y.x_nt, Y.x_v, Y.x_k, Y.x_cmp, Y.x_chn, Y.x_call, Y.x_callv, Y.x_bi, Y.x_isi, Y.x_exi, Y.x_ix, Y.x_bin, Y.p_n, Y.p_t, Y.p_tl, Y.ps_cons, Y.ps_nil, Y.i_v, Y.i_ix, Y.i_tup, Y.i_lst, Y.i_k, Y.i_bin, Y.i_call, Y.i_sl, Y.i_rev, Y.i_lc, Y.i_rng, Y.i_rng2, Y.i_zip, Y.i_enum, Y.q_t, Y.q_l, Y.q_z, Y.q_zt, Y.q_e, Y.sz, Y.a_int, Y.a_tup, Y.a_lst, Y.su_int, Y.mo_int, Y.mu_intR, Y.mu_intL, Y.fd_intS, Y.po_int, Y.c_lt, Y.c_le, Y.c_gt, Y.c_ge, Y.cc_le, Y.cc_lt, Y.c_isn_n, Y.c_isn_b, Y.c_isn_i, Y.c_isn_s, Y.c_isn_t, Y.c_isn_l, Y.c_nisn_n, Y.c_nisn_b, Y.c_nisn_i, Y.c_nisn_s, Y.c_nisn_t, Y.c_nisn_l, Y.c_eq, Y.c_ne, Y.n_tup, Y.n_lst, Y.n_int, Y.n_abs, Y.n_tt, Y.n_tl, Y.n_lt, Y.n_ll, Y.n_gcd, Y.ix_t0, Y.ix_t1, Y.ix_t2, Y.ix_l0, Y.ix_l1, Y.l_tup, Y.l_lst, Y.r_tup, Y.r_lst, List.map_cons, List.map_nil, List.cons_append, List.nil_append, List.replicate, List.getElem?_cons_zero, List.getElem?_cons_succ, List.length_cons, List.length_nil, List.set_cons_zero, List.set_cons_succ, if_true, Bool.false_eq_true, if_false, Bool.not_true, Bool.not_false, Nat.reduceLeDiff, Nat.reduceAdd, kn0, kn1, kn2, kn3, kn4, kn5, kn6, kn7, kn8, kn9, kn10, kn11, kn12, kn13, kn14, kn15, kn16, kn17, kn18, kn19, kn20, kn21, kn22, kn23, kn24, kn25, kn26, kn27, kn28, kn29, kn30, kn31, kn32, kn33, kn34, kn35, kn37, kn38, kn39, e1, e2, cut_en, e3]
      exact end_rt gC (okF2 i).2.1
    · simp only [h1, decide_false] at e3
      rw [if_neg h1]
      have e4 := lc_filter (c := cl (n + 2)) (G := LL.G) (δ := [some (stD w), some (.tup (os.map en)), some (.int i), some (en o), some (.lst (ns.map en)), none, none, none]) (S := Cup c []) (S1 := Cup c []) (it := .v 4) (tg := .n 7) (own := [6, 7]) (elt := .v 7) (t := .cmp .notin (.v 7) (.sl (.v 1) none (some (.v 2)))) (gs := []) (enc := en) (ys := ns) en (fun x => !decide (x ∈ os.take i)) (by simp only [evx_v, evx_k, evx_g, evx_bin, evx_cmp, evx_chn, evx_neg, evx_nt, evx_and, evx_or, evx_ite, evx_tup, evx_lst, evx_nlst, evx_ix, evx_sl, evx_rev, evx_app, evx_join, evx_call, evx_callv, evx_lam, evx_bi, evx_isi, exx_asg, exx_setix, exx_ex, exx_ite, exx_ret, exx_ret0, exx_brk, exx_cnt, exx_pas, exx_rai, Y.b_ok, Y.b_ex, Y.o_ok, Y.o_ex, Y.e_nil, Y.e_cons, Y.eo_none, Y.eo_some, Y.s_nil, Y.s_cons, Y.t_bl, Y.t_int, Y.t_tup, Y.t_lst, Y.t_non, Y.x_and, Y.x_or, Y.x_nt, Y.x_v, Y.x_k, Y.x_cmp, Y.x_chn, Y.x_call, Y.x_callv, Y.x_bi, Y.x_isi, Y.x_exi, Y.x_ix, Y.x_bin, Y.p_n, Y.p_t, Y.p_tl, Y.ps_cons, Y.ps_nil, Y.i_v, Y.i_ix, Y.i_tup, Y.i_lst, Y.i_k, Y.i_bin, Y.i_call, Y.i_sl, Y.i_rev, Y.i_lc, Y.i_rng, Y.i_rng2, Y.i_zip, Y.i_enum, Y.q_t, Y.q_l, Y.q_z, Y.q_zt, Y.q_e, Y.sz, Y.a_int, Y.a_tup, Y.a_lst, Y.su_int, Y.mo_int, Y.mu_intR, Y.mu_intL, Y.fd_intS, Y.po_int, Y.c_lt, Y.c_le, Y.c_gt, Y.c_ge, Y.cc_le, Y.cc_lt, Y.c_isn_n, Y.c_isn_b, Y.c_isn_i, Y.c_isn_s, Y.c_isn_t, Y.c_isn_l, Y.c_nisn_n, Y.c_nisn_b, Y.c_nisn_i, Y.c_nisn_s, Y.c_nisn_t, Y.c_nisn_l, Y.c_eq, Y.c_ne, Y.n_tup, Y.n_lst, Y.n_int, Y.n_abs, Y.n_tt, Y.n_tl, Y.n_lt, Y.n_ll, Y.n_gcd, Y.ix_t0, Y.ix_t1, Y.ix_t2, Y.ix_l0, Y.ix_l1, Y.l_tup, Y.l_lst, Y.r_tup, Y.r_lst, List.map_cons, List.map_nil, List.cons_append, List.nil_append, List.replicate, List.getElem?_cons_zero, List.getElem?_cons_succ, List.length_cons, List.length_nil, List.set_cons_zero, List.set_cons_succ, if_true, Bool.false_eq_true, if_false, Bool.not_true, Bool.not_false, Nat.reduceLeDiff, Nat.reduceAdd]) rfl (by have := nd_small w o ns hn; omega) (fun y _ => ⟨_, Y.p_n _ _ _ _, by simp only [wipeD, evx_v, evx_k, evx_g, evx_bin, evx_cmp, evx_chn, evx_neg, evx_nt, evx_and, evx_or, evx_ite, evx_tup, evx_lst, evx_nlst, evx_ix, evx_sl, evx_rev, evx_app, evx_join, evx_call, evx_callv, evx_lam, evx_bi, evx_isi, exx_asg, exx_setix, exx_ex, exx_ite, exx_ret, exx_ret0, exx_brk, exx_cnt, exx_pas, exx_rai, Y.b_ok, Y.b_ex, Y.o_ok, Y.o_ex, Y.e_nil, Y.e_cons, Y.eo_none, Y.eo_some, Y.s_nil, Y.s_cons, Y.t_bl, Y.t_int, Y.t_tup, Y.t_lst, Y.t_non, Y.x_and, Y.x_or, Y.x_nt, Y.x_v, Y.x_k, Y.x_cmp, Y.x_chn, Y.x_call, Y.x_callv, Y.x_bi, Y.x_isi, Y.x_exi, Y.x_ix, Y.x_bin, Y.p_n, Y.p_t, Y.p_tl, Y.ps_cons, Y.ps_nil, Y.i_v, Y.i_ix, Y.i_tup, Y.i_lst, Y.i_k, Y.i_bin, Y.i_call, Y.i_sl, Y.i_rev, Y.i_lc, Y.i_rng, Y.i_rng2, Y.i_zip, Y.i_enum, Y.q_t, Y.q_l, Y.q_z, Y.q_zt, Y.q_e, Y.sz, Y.a_int, Y.a_tup, Y.a_lst, Y.su_int, Y.mo_int, Y.mu_intR, Y.mu_intL, Y.fd_intS, Y.po_int, Y.c_lt, Y.c_le, Y.c_gt, Y.c_ge, Y.cc_le, Y.cc_lt, Y.c_isn_n, Y.c_isn_b, Y.c_isn_i, Y.c_isn_s, Y.c_isn_t, Y.c_isn_l, Y.c_nisn_n, Y.c_nisn_b, Y.c_nisn_i, Y.c_nisn_s, Y.c_nisn_t, Y.c_nisn_l, Y.c_eq, Y.c_ne, Y.n_tup, Y.n_lst, Y.n_int, Y.n_abs, Y.n_tt, Y.n_tl, Y.n_lt, Y.n_ll, Y.n_gcd, Y.ix_t0, Y.ix_t1, Y.ix_t2, Y.ix_l0, Y.ix_l1, Y.l_tup, Y.l_lst, Y.r_tup, Y.r_lst, List.map_cons, List.map_nil, List.cons_append, List.nil_append, List.replicate, List.getElem?_cons_zero, List.getElem?_cons_succ, List.length_cons, List.length_nil, List.set_cons_zero, List.set_cons_succ, if_true, Bool.false_eq_true, if_false, Bool.not_true, Bool.not_false, Nat.reduceLeDiff, Nat.reduceAdd, kn0, kn1, kn2, kn3, kn4, kn5, kn6, kn7, kn8, kn9, kn10, kn11, kn12, kn13, kn14, kn15, kn16, kn17, kn18, kn19, kn20, kn21, kn22, kn23, kn24, kn25, kn26, kn27, kn28, kn29, kn30, kn31, kn32, kn33, kn34, kn35, kn37, kn38, kn39, cut_en, c_notin], fun _ => by simp only [wipeD, evx_v, evx_k, evx_g, evx_bin, evx_cmp, evx_chn, evx_neg, evx_nt, evx_and, evx_or, evx_ite, evx_tup, evx_lst, evx_nlst, evx_ix, evx_sl, evx_rev, evx_app, evx_join, evx_call, evx_callv, evx_lam, evx_bi, evx_isi, exx_asg, exx_setix, exx_ex, exx_ite, exx_ret, exx_ret0, exx_brk, exx_cnt, exx_pas, exx_rai, Y.b_ok, Y.b_ex, Y.o_ok, Y.o_ex, Y.e_nil, Y.e_cons, Y.eo_none, Y.eo_some, Y.s_nil, Y.s_cons, Y.t_bl, Y.t_int, Y.t_tup, Y.t_lst, Y.t_non, Y.x_and, Y.x_or, Y.x_nt, Y.x_v, Y.x_k, Y.x_cmp, Y.x_chn, Y.x_call, Y.x_callv, Y.x_bi, Y.x_isi, Y.x_exi, Y.x_ix, Y.x_bin, Y.p_n, Y.p_t, Y.p_tl, Y.ps_cons, Y.ps_nil, Y.i_v, Y.i_ix, Y.i_tup, Y.i_lst, Y.i_k, Y.i_bin, Y.i_call, Y.i_sl, Y.i_rev, Y.i_lc, Y.i_rng, Y.i_rng2, Y.i_zip, Y.i_enum, Y.q_t, Y.q_l, Y.q_z, Y.q_zt, Y.q_e, Y.sz, Y.a_int, Y.a_tup, Y.a_lst, Y.su_int, Y.mo_int, Y.mu_intR, Y.mu_intL, Y.fd_intS, Y.po_int, Y.c_lt, Y.c_le, Y.c_gt, Y.c_ge, Y.cc_le, Y.cc_lt, Y.c_isn_n, Y.c_isn_b, Y.c_isn_i, Y.c_isn_s, Y.c_isn_t, Y.c_isn_l, Y.c_nisn_n, Y.c_nisn_b, Y.c_nisn_i, Y.c_nisn_s, Y.c_nisn_t, Y.c_nisn_l, Y.c_eq, Y.c_ne, Y.n_tup, Y.n_lst, Y.n_int, Y.n_abs, Y.n_tt, Y.n_tl, Y.n_lt, Y.n_ll, Y.n_gcd, Y.ix_t0, Y.ix_t1, Y.ix_t2, Y.ix_l0, Y.ix_l1, Y.l_tup, Y.l_lst, Y.r_tup, Y.r_lst, List.map_cons, List.map_nil, List.cons_append, List.nil_append, List.replicate, List.getElem?_cons_zero, List.getElem?_cons_succ, List.length_cons, List.length_nil, List.set_cons_zero, List.set_cons_succ, if_true, Bool.false_eq_true, if_false, Bool.not_true, Bool.not_false, Nat.reduceLeDiff, Nat.reduceAdd]⟩)
      have e5 := c_ne (Cup c []) (ns.filter fun x => !decide (x ∈ os.take i))
      cases hf : ns.filter (fun x => !decide (x ∈ os.take i)) with
      | nil =>
        rw [hf] at e4 e5
        simp only [List.map_nil, List.isEmpty_nil, Bool.not_true] at e4 e5
        simp only [b18, evx_v, evx_k, evx_g, evx_bin, evx_cmp, evx_chn, evx_neg, evx_nt, evx_and, evx_or, evx_ite, evx_tup, evx_lst, evx_nlst, evx_ix, evx_sl, evx_rev, evx_app, evx_join, evx_call, evx_callv, evx_lam, evx_bi, evx_isi, exx_asg, exx_setix, exx_ex, exx_ite, exx_ret, exx_ret0, exx_brk, exx_cnt, exx_pas, exx_rai, Y.b_ok, Y.b_ex, Y.o_ok, Y.o_ex, Y.e_nil, Y.e_cons, Y.eo_none, Y.eo_some, Y.s_nil, Y.s_cons, Y.t_bl, Y.t_int, Y.t_tup, Y.t_lst, Y.t_non, Y.x_and, Y.x_or, Y.x_nt, Y.x_v, Y.x_k, Y.x_cmp, Y.x_chn, Y.x_call, Y.x_callv, Y.x_bi, Y.x_isi, Y.x_exi, Y.x_ix, Y.x_bin, Y.p_n, Y.p_t, Y.p_tl, Y.ps_cons, Y.ps_nil, Y.i_v, Y.i_ix, Y.i_tup, Y.i_lst, Y.i_k, Y.i_bin, Y.i_call, Y.i_sl, Y.i_rev, Y.i_lc, Y.i_rng, Y.i_rng2, Y.i_zip, Y.i_enum, Y.q_t, Y.q_l, Y.q_z, Y.q_zt, Y.q_e, Y.sz, Y.a_int, Y.a_tup, Y.a_lst, Y.su_int, Y.mo_int, Y.mu_intR, Y.mu_intL, Y.fd_intS, Y.po_int, Y.c_lt, Y.c_le, Y.c_gt, Y.c_ge, Y.cc_le, Y.cc_lt, Y.c_isn_n, Y.c_isn_b, Y.c_isn_i, Y.c_isn_s, Y.c_isn_t, Y.c_isn_l, Y.c_nisn_n, Y.c_nisn_b, Y.c_nisn_i, Y.c_nisn_s, Y.c_nisn_t, Y.c_nisn_l, Y.c_eq, Y.c_ne, Y.n_tup, Y.n_lst, Y.n_int, Y.n_abs, Y.n_tt, Y.n_tl, Y.n_lt, Y.n_ll, Y.n_gcd, Y.ix_t0, Y.ix_t1, Y.ix_t2, Y.ix_l0, Y.ix_l1, Y.l_tup, Y.l_lst, Y.r_tup, Y.r_lst, List.map_cons, List.map_nil, List.cons_append, List.nil_append, List.replicate, List.getElem?_cons_zero, List.getElem?_cons_succ, List.length_cons, List.length_nil, List.set_cons_zero, List.set_cons_succ, if_true, Bool.false_eq_true, if_false, Bool.not_true, Bool.not_false, Nat.reduceLeDiff, Nat.reduceAdd, kn0, kn1, kn2, kn3, kn4, kn5, kn6, kn7, kn8, kn9, kn10, kn11, kn12, kn13, kn14, kn15, kn16, kn17, kn18, kn19, kn20, kn21, kn22, kn23, kn24, kn25, kn26, kn27, kn28, kn29, kn30, kn31, kn32, kn33, kn34, kn35, kn37, kn38, kn39, e1, e2, cut_en, e3, e4, e5]
        exact end_rt (d := .non) gC rfl
      | cons l r =>
        rw [hf] at e4 e5
        simp only [List.map_cons, List.isEmpty_cons, Bool.not_false] at e4 e5
        simp only [b18, evx_v, evx_k, evx_g, evx_bin, evx_cmp, evx_chn, evx_neg, evx_nt, evx_and, evx_or, evx_ite, evx_tup, evx_lst, evx_nlst, evx_ix, evx_sl, evx_rev, evx_app, evx_join, evx_call, evx_callv, evx_lam, evx_bi, evx_isi, exx_asg, exx_setix, exx_ex, exx_ite, exx_ret, exx_ret0, exx_brk, exx_cnt, exx_pas, exx_rai, Y.b_ok, Y.b_ex, Y.o_ok, Y.o_ex, Y.e_nil, Y.e_cons, Y.eo_none, Y.eo_some, Y.s_nil, Y.s_cons, Y.t_bl, Y.t_int, Y.t_tup, Y.t_lst, Y.t_non, Y.x_and, Y.x_or, Y.x_nt, Y.x_v, Y.x_k, Y.x_cmp, Y.x_chn, Y.x_call, Y.x_callv, Y.x_bi, Y.x_isi, Y.x_exi, Y.x_ix, Y.x_bin, Y.p_n, Y.p_t, Y.p_tl, Y.ps_cons, Y.ps_nil, Y.i_v, Y.i_ix, Y.i_tup, Y.i_lst, Y.i_k, Y.i_bin, Y.i_call, Y.i_sl, Y.i_rev, Y.i_lc, Y.i_rng, Y.i_rng2, Y.i_zip, Y.i_enum, Y.q_t, Y.q_l, Y.q_z, Y.q_zt, Y.q_e, Y.sz, Y.a_int, Y.a_tup, Y.a_lst, Y.su_int, Y.mo_int, Y.mu_intR, Y.mu_intL, Y.fd_intS, Y.po_int, Y.c_lt, Y.c_le, Y.c_gt, Y.c_ge, Y.cc_le, Y.cc_lt, Y.c_isn_n, Y.c_isn_b, Y.c_isn_i, Y.c_isn_s, Y.c_isn_t, Y.c_isn_l, Y.c_nisn_n, Y.c_nisn_b, Y.c_nisn_i, Y.c_nisn_s, Y.c_nisn_t, Y.c_nisn_l, Y.c_eq, Y.c_ne, Y.n_tup, Y.n_lst, Y.n_int, Y.n_abs, Y.n_tt, Y.n_tl, Y.n_lt, Y.n_ll, Y.n_gcd, Y.ix_t0, Y.ix_t1, Y.ix_t2, Y.ix_l0, Y.ix_l1, Y.l_tup, Y.l_lst, Y.r_tup, Y.r_lst, List.map_cons, List.map_nil, List.cons_append, List.nil_append, List.replicate, List.getElem?_cons_zero, List.getElem?_cons_succ, List.length_cons, List.length_nil, List.set_cons_zero, List.set_cons_succ, if_true, Bool.false_eq_true, if_false, Bool.not_true, Bool.not_false, Nat.reduceLeDiff, Nat.reduceAdd, kn0, kn1, kn2, kn3, kn4, kn5, kn6, kn7, kn8, kn9, kn10, kn11, kn12, kn13, kn14, kn15, kn16, kn17, kn18, kn19, kn20, kn21, kn22, kn23, kn24, kn25, kn26, kn27, kn28, kn29, kn30, kn31, kn32, kn33, kn34, kn35, kn37, kn38, kn39, e1, e2, cut_en, e3, e4, e5]
        exact end_rt gC (okF3 i l).2.1
theorem first_of {α : Type} (f : α → Option D) : ∀ l : List α, (((l.filter fun x => (f x).isSome).map fun x => encO (f x)) ++ [.non])[0]? = some (encO (l.findSome? f))
  | [] => rfl
  | x :: l => by
    cases h : f x with
    | none =>
      rw [List.filter_cons_of_neg (by simp [h]), List.findSome?_cons, h]
      exact first_of f l
    | some d =>
      rw [List.filter_cons_of_pos (by simp [h]), List.findSome?_cons, h]
      simp [h]
theorem fF_under (w : Nat) (os : List Od) : D.under 1 (encO (fF w os)) = true ∧ (encO (fF w os)).pv = true ∧ (encO (fF w os)).dp ≤ 2 := by
  unfold fF
  cases h : (List.range os.length).findSome? (fA w os) with
  | none => exact ⟨rfl, rfl, by decide⟩
  | some d =>
    obtain ⟨i, _, hi⟩ := List.exists_of_findSome?_eq_some h
    have := fA_form hi
    exact ⟨this.2.1, this.2.2.1, this.2.2.2⟩
theorem s_fault_in (w : Nat) (hw : w < 4) (os : List Od) (hl : os.length ≤ 50) : (cl (n + 4)).ca 19 [stD w, .tup (os.map en)] (Cup c []) = .ok (encO (fF w os)) (Cup c []) := by
  have e0 : rngR (.int 0) (.int ((os.map en).length : Nat)) (Cup c []) = (.ok ((List.range os.length).map (fun (i : Nat) => D.int (i : Int)), []) (Cup c []) : IT.R _) := by
    rw [List.length_map]
    exact rng_map _ (by omega)
  have e1 := lc_map (c := cl (n + 3)) (G := LL.G) (δ := [some (stD w), some (.tup (os.map en)), none, none, none, none]) (S := Cup c []) (S1 := Cup c []) (it := .rng none (.bi .len [(.v 1)])) (tg := .n 4) (own := [3, 4]) (elt := .call 18 [(.v 0), (.v 1), (.v 4)]) (gs := []) (enc := fun (i : Nat) => D.int (i : Int)) (ys := List.range os.length) (fun i => encO (fA w os i)) (by simp only [evx_v, evx_k, evx_g, evx_bin, evx_cmp, evx_chn, evx_neg, evx_nt, evx_and, evx_or, evx_ite, evx_tup, evx_lst, evx_nlst, evx_ix, evx_sl, evx_rev, evx_app, evx_join, evx_call, evx_callv, evx_lam, evx_bi, evx_isi, exx_asg, exx_setix, exx_ex, exx_ite, exx_ret, exx_ret0, exx_brk, exx_cnt, exx_pas, exx_rai, Y.b_ok, Y.b_ex, Y.o_ok, Y.o_ex, Y.e_nil, Y.e_cons, Y.eo_none, Y.eo_some, Y.s_nil, Y.s_cons, Y.t_bl, Y.t_int, Y.t_tup, Y.t_lst, Y.t_non, Y.x_and, Y.x_or, Y.x_nt, Y.x_v, Y.x_k, Y.x_cmp, Y.x_chn, Y.x_call, Y.x_callv, Y.x_bi, Y.x_isi, Y.x_exi, Y.x_ix, Y.x_bin, Y.p_n, Y.p_t, Y.p_tl, Y.ps_cons, Y.ps_nil, Y.i_v, Y.i_ix, Y.i_tup, Y.i_lst, Y.i_k, Y.i_bin, Y.i_call, Y.i_sl, Y.i_rev, Y.i_lc, Y.i_rng, Y.i_rng2, Y.i_zip, Y.i_enum, Y.q_t, Y.q_l, Y.q_z, Y.q_zt, Y.q_e, Y.sz, Y.a_int, Y.a_tup, Y.a_lst, Y.su_int, Y.mo_int, Y.mu_intR, Y.mu_intL, Y.fd_intS, Y.po_int, Y.c_lt, Y.c_le, Y.c_gt, Y.c_ge, Y.cc_le, Y.cc_lt, Y.c_isn_n, Y.c_isn_b, Y.c_isn_i, Y.c_isn_s, Y.c_isn_t, Y.c_isn_l, Y.c_nisn_n, Y.c_nisn_b, Y.c_nisn_i, Y.c_nisn_s, Y.c_nisn_t, Y.c_nisn_l, Y.c_eq, Y.c_ne, Y.n_tup, Y.n_lst, Y.n_int, Y.n_abs, Y.n_tt, Y.n_tl, Y.n_lt, Y.n_ll, Y.n_gcd, Y.ix_t0, Y.ix_t1, Y.ix_t2, Y.ix_l0, Y.ix_l1, Y.l_tup, Y.l_lst, Y.r_tup, Y.r_lst, List.map_cons, List.map_nil, List.cons_append, List.nil_append, List.replicate, List.getElem?_cons_zero, List.getElem?_cons_succ, List.length_cons, List.length_nil, List.set_cons_zero, List.set_cons_succ, if_true, Bool.false_eq_true, if_false, Bool.not_true, Bool.not_false, Nat.reduceLeDiff, Nat.reduceAdd, e0]) rfl (by simp; omega) (fun i hi => ⟨_, Y.p_n _ _ _ _, by simp only [wipeD, evx_v, evx_k, evx_g, evx_bin, evx_cmp, evx_chn, evx_neg, evx_nt, evx_and, evx_or, evx_ite, evx_tup, evx_lst, evx_nlst, evx_ix, evx_sl, evx_rev, evx_app, evx_join, evx_call, evx_callv, evx_lam, evx_bi, evx_isi, exx_asg, exx_setix, exx_ex, exx_ite, exx_ret, exx_ret0, exx_brk, exx_cnt, exx_pas, exx_rai, Y.b_ok, Y.b_ex, Y.o_ok, Y.o_ex, Y.e_nil, Y.e_cons, Y.eo_none, Y.eo_some, Y.s_nil, Y.s_cons, Y.t_bl, Y.t_int, Y.t_tup, Y.t_lst, Y.t_non, Y.x_and, Y.x_or, Y.x_nt, Y.x_v, Y.x_k, Y.x_cmp, Y.x_chn, Y.x_call, Y.x_callv, Y.x_bi, Y.x_isi, Y.x_exi, Y.x_ix, Y.x_bin, Y.p_n, Y.p_t, Y.p_tl, Y.ps_cons, Y.ps_nil, Y.i_v, Y.i_ix, Y.i_tup, Y.i_lst, Y.i_k, Y.i_bin, Y.i_call, Y.i_sl, Y.i_rev, Y.i_lc, Y.i_rng, Y.i_rng2, Y.i_zip, Y.i_enum, Y.q_t, Y.q_l, Y.q_z, Y.q_zt, Y.q_e, Y.sz, Y.a_int, Y.a_tup, Y.a_lst, Y.su_int, Y.mo_int, Y.mu_intR, Y.mu_intL, Y.fd_intS, Y.po_int, Y.c_lt, Y.c_le, Y.c_gt, Y.c_ge, Y.cc_le, Y.cc_lt, Y.c_isn_n, Y.c_isn_b, Y.c_isn_i, Y.c_isn_s, Y.c_isn_t, Y.c_isn_l, Y.c_nisn_n, Y.c_nisn_b, Y.c_nisn_i, Y.c_nisn_s, Y.c_nisn_t, Y.c_nisn_l, Y.c_eq, Y.c_ne, Y.n_tup, Y.n_lst, Y.n_int, Y.n_abs, Y.n_tt, Y.n_tl, Y.n_lt, Y.n_ll, Y.n_gcd, Y.ix_t0, Y.ix_t1, Y.ix_t2, Y.ix_l0, Y.ix_l1, Y.l_tup, Y.l_lst, Y.r_tup, Y.r_lst, List.map_cons, List.map_nil, List.cons_append, List.nil_append, List.replicate, List.getElem?_cons_zero, List.getElem?_cons_succ, List.length_cons, List.length_nil, List.set_cons_zero, List.set_cons_succ, if_true, Bool.false_eq_true, if_false, Bool.not_true, Bool.not_false, Nat.reduceLeDiff, Nat.reduceAdd, kn0, kn1, kn2, kn3, kn4, kn5, kn6, kn7, kn8, kn9, kn10, kn11, kn12, kn13, kn14, kn15, kn16, kn17, kn18, kn19, kn20, kn21, kn22, kn23, kn24, kn25, kn26, kn27, kn28, kn29, kn30, kn31, kn32, kn33, kn34, kn35, kn37, kn38, kn39, s_fault_at (n := n) (c := c) w hw os i (List.mem_range.mp hi)]⟩)
  have e2 := lc_filter (c := cl (n + 3)) (G := LL.G) (δ := [some (stD w), some (.tup (os.map en)), some (.lst ((List.range os.length).map fun i => encO (fA w os i))), none, none, none]) (S := Cup c []) (S1 := Cup c []) (it := .v 2) (tg := .n 5) (own := [3, 5]) (elt := .v 5) (t := .cmp .isnot (.v 5) (.k .non)) (gs := []) (enc := fun i => encO (fA w os i)) (ys := List.range os.length) (fun i => encO (fA w os i)) (fun i => (fA w os i).isSome) (by simp only [evx_v, evx_k, evx_g, evx_bin, evx_cmp, evx_chn, evx_neg, evx_nt, evx_and, evx_or, evx_ite, evx_tup, evx_lst, evx_nlst, evx_ix, evx_sl, evx_rev, evx_app, evx_join, evx_call, evx_callv, evx_lam, evx_bi, evx_isi, exx_asg, exx_setix, exx_ex, exx_ite, exx_ret, exx_ret0, exx_brk, exx_cnt, exx_pas, exx_rai, Y.b_ok, Y.b_ex, Y.o_ok, Y.o_ex, Y.e_nil, Y.e_cons, Y.eo_none, Y.eo_some, Y.s_nil, Y.s_cons, Y.t_bl, Y.t_int, Y.t_tup, Y.t_lst, Y.t_non, Y.x_and, Y.x_or, Y.x_nt, Y.x_v, Y.x_k, Y.x_cmp, Y.x_chn, Y.x_call, Y.x_callv, Y.x_bi, Y.x_isi, Y.x_exi, Y.x_ix, Y.x_bin, Y.p_n, Y.p_t, Y.p_tl, Y.ps_cons, Y.ps_nil, Y.i_v, Y.i_ix, Y.i_tup, Y.i_lst, Y.i_k, Y.i_bin, Y.i_call, Y.i_sl, Y.i_rev, Y.i_lc, Y.i_rng, Y.i_rng2, Y.i_zip, Y.i_enum, Y.q_t, Y.q_l, Y.q_z, Y.q_zt, Y.q_e, Y.sz, Y.a_int, Y.a_tup, Y.a_lst, Y.su_int, Y.mo_int, Y.mu_intR, Y.mu_intL, Y.fd_intS, Y.po_int, Y.c_lt, Y.c_le, Y.c_gt, Y.c_ge, Y.cc_le, Y.cc_lt, Y.c_isn_n, Y.c_isn_b, Y.c_isn_i, Y.c_isn_s, Y.c_isn_t, Y.c_isn_l, Y.c_nisn_n, Y.c_nisn_b, Y.c_nisn_i, Y.c_nisn_s, Y.c_nisn_t, Y.c_nisn_l, Y.c_eq, Y.c_ne, Y.n_tup, Y.n_lst, Y.n_int, Y.n_abs, Y.n_tt, Y.n_tl, Y.n_lt, Y.n_ll, Y.n_gcd, Y.ix_t0, Y.ix_t1, Y.ix_t2, Y.ix_l0, Y.ix_l1, Y.l_tup, Y.l_lst, Y.r_tup, Y.r_lst, List.map_cons, List.map_nil, List.cons_append, List.nil_append, List.replicate, List.getElem?_cons_zero, List.getElem?_cons_succ, List.length_cons, List.length_nil, List.set_cons_zero, List.set_cons_succ, if_true, Bool.false_eq_true, if_false, Bool.not_true, Bool.not_false, Nat.reduceLeDiff, Nat.reduceAdd]) rfl (by simp; omega) (fun i hi => ⟨_, Y.p_n _ _ _ _, by
    simp only [wipeD, evx_v, evx_k, evx_g, evx_bin, evx_cmp, evx_chn, evx_neg, evx_nt, evx_and, evx_or, evx_ite, evx_tup, evx_lst, evx_nlst, evx_ix, evx_sl, evx_rev, evx_app, evx_join, evx_call, evx_callv, evx_lam, evx_bi, evx_isi, exx_asg, exx_setix, exx_ex, exx_ite, exx_ret, exx_ret0, exx_brk, exx_cnt, exx_pas, exx_rai, Y.b_ok, Y.b_ex, Y.o_ok, Y.o_ex, Y.e_nil, Y.e_cons, Y.eo_none, Y.eo_some, Y.s_nil, Y.s_cons, Y.t_bl, Y.t_int, Y.t_tup, Y.t_lst, Y.t_non, Y.x_and, Y.x_or, Y.x_nt, Y.x_v, Y.x_k, Y.x_cmp, Y.x_chn, Y.x_call, Y.x_callv, Y.x_bi, Y.x_isi, Y.x_exi, Y.x_ix, Y.x_bin, Y.p_n, Y.p_t, Y.p_tl, Y.ps_cons, Y.ps_nil, Y.i_v, Y.i_ix, Y.i_tup, Y.i_lst, Y.i_k, Y.i_bin, Y.i_call, Y.i_sl, Y.i_rev, Y.i_lc, Y.i_rng, Y.i_rng2, Y.i_zip, Y.i_enum, Y.q_t, Y.q_l, Y.q_z, Y.q_zt, Y.q_e, Y.sz, Y.a_int, Y.a_tup, Y.a_lst, Y.su_int, Y.mo_int, Y.mu_intR, Y.mu_intL, Y.fd_intS, Y.po_int, Y.c_lt, Y.c_le, Y.c_gt, Y.c_ge, Y.cc_le, Y.cc_lt, Y.c_isn_n, Y.c_isn_b, Y.c_isn_i, Y.c_isn_s, Y.c_isn_t, Y.c_isn_l, Y.c_nisn_n, Y.c_nisn_b, Y.c_nisn_i, Y.c_nisn_s, Y.c_nisn_t, Y.c_nisn_l, Y.c_eq, Y.c_ne, Y.n_tup, Y.n_lst, Y.n_int, Y.n_abs, Y.n_tt, Y.n_tl, Y.n_lt, Y.n_ll, Y.n_gcd, Y.ix_t0, Y.ix_t1, Y.ix_t2, Y.ix_l0, Y.ix_l1, Y.l_tup, Y.l_lst, Y.r_tup, Y.r_lst, List.map_cons, List.map_nil, List.cons_append, List.nil_append, List.replicate, List.getElem?_cons_zero, List.getElem?_cons_succ, List.length_cons, List.length_nil, List.set_cons_zero, List.set_cons_succ, if_true, Bool.false_eq_true, if_false, Bool.not_true, Bool.not_false, Nat.reduceLeDiff, Nat.reduceAdd]
    cases h : fA w os i with
    | none => simp only [encO, evx_v, evx_k, evx_g, evx_bin, evx_cmp, evx_chn, evx_neg, evx_nt, evx_and, evx_or, evx_ite, evx_tup, evx_lst, evx_nlst, evx_ix, evx_sl, evx_rev, evx_app, evx_join, evx_call, evx_callv, evx_lam, evx_bi, evx_isi, exx_asg, exx_setix, exx_ex, exx_ite, exx_ret, exx_ret0, exx_brk, exx_cnt, exx_pas, exx_rai, Y.b_ok, Y.b_ex, Y.o_ok, Y.o_ex, Y.e_nil, Y.e_cons, Y.eo_none, Y.eo_some, Y.s_nil, Y.s_cons, Y.t_bl, Y.t_int, Y.t_tup, Y.t_lst, Y.t_non, Y.x_and, Y.x_or, Y.x_nt, Y.x_v, Y.x_k, Y.x_cmp, Y.x_chn, Y.x_call, Y.x_callv, Y.x_bi, Y.x_isi, Y.x_exi, Y.x_ix, Y.x_bin, Y.p_n, Y.p_t, Y.p_tl, Y.ps_cons, Y.ps_nil, Y.i_v, Y.i_ix, Y.i_tup, Y.i_lst, Y.i_k, Y.i_bin, Y.i_call, Y.i_sl, Y.i_rev, Y.i_lc, Y.i_rng, Y.i_rng2, Y.i_zip, Y.i_enum, Y.q_t, Y.q_l, Y.q_z, Y.q_zt, Y.q_e, Y.sz, Y.a_int, Y.a_tup, Y.a_lst, Y.su_int, Y.mo_int, Y.mu_intR, Y.mu_intL, Y.fd_intS, Y.po_int, Y.c_lt, Y.c_le, Y.c_gt, Y.c_ge, Y.cc_le, Y.cc_lt, Y.c_isn_n, Y.c_isn_b, Y.c_isn_i, Y.c_isn_s, Y.c_isn_t, Y.c_isn_l, Y.c_nisn_n, Y.c_nisn_b, Y.c_nisn_i, Y.c_nisn_s, Y.c_nisn_t, Y.c_nisn_l, Y.c_eq, Y.c_ne, Y.n_tup, Y.n_lst, Y.n_int, Y.n_abs, Y.n_tt, Y.n_tl, Y.n_lt, Y.n_ll, Y.n_gcd, Y.ix_t0, Y.ix_t1, Y.ix_t2, Y.ix_l0, Y.ix_l1, Y.l_tup, Y.l_lst, Y.r_tup, Y.r_lst, List.map_cons, List.map_nil, List.cons_append, List.nil_append, List.replicate, List.getElem?_cons_zero, List.getElem?_cons_succ, List.length_cons, List.length_nil, List.set_cons_zero, List.set_cons_succ, if_true, Bool.false_eq_true, if_false, Bool.not_true, Bool.not_false, Nat.reduceLeDiff, Nat.reduceAdd, Option.isSome]
    | some d =>
      obtain ⟨⟨xs, rfl⟩, _⟩ := fA_form h
      simp only [encO, evx_v, evx_k, evx_g, evx_bin, evx_cmp, evx_chn, evx_neg, evx_nt, evx_and, evx_or, evx_ite, evx_tup, evx_lst, evx_nlst, evx_ix, evx_sl, evx_rev, evx_app, evx_join, evx_call, evx_callv, evx_lam, evx_bi, evx_isi, exx_asg, exx_setix, exx_ex, exx_ite, exx_ret, exx_ret0, exx_brk, exx_cnt, exx_pas, exx_rai, Y.b_ok, Y.b_ex, Y.o_ok, Y.o_ex, Y.e_nil, Y.e_cons, Y.eo_none, Y.eo_some, Y.s_nil, Y.s_cons, Y.t_bl, Y.t_int, Y.t_tup, Y.t_lst, Y.t_non, Y.x_and, Y.x_or, Y.x_nt, Y.x_v, Y.x_k, Y.x_cmp, Y.x_chn, Y.x_call, Y.x_callv, Y.x_bi, Y.x_isi, Y.x_exi, Y.x_ix, Y.x_bin, Y.p_n, Y.p_t, Y.p_tl, Y.ps_cons, Y.ps_nil, Y.i_v, Y.i_ix, Y.i_tup, Y.i_lst, Y.i_k, Y.i_bin, Y.i_call, Y.i_sl, Y.i_rev, Y.i_lc, Y.i_rng, Y.i_rng2, Y.i_zip, Y.i_enum, Y.q_t, Y.q_l, Y.q_z, Y.q_zt, Y.q_e, Y.sz, Y.a_int, Y.a_tup, Y.a_lst, Y.su_int, Y.mo_int, Y.mu_intR, Y.mu_intL, Y.fd_intS, Y.po_int, Y.c_lt, Y.c_le, Y.c_gt, Y.c_ge, Y.cc_le, Y.cc_lt, Y.c_isn_n, Y.c_isn_b, Y.c_isn_i, Y.c_isn_s, Y.c_isn_t, Y.c_isn_l, Y.c_nisn_n, Y.c_nisn_b, Y.c_nisn_i, Y.c_nisn_s, Y.c_nisn_t, Y.c_nisn_l, Y.c_eq, Y.c_ne, Y.n_tup, Y.n_lst, Y.n_int, Y.n_abs, Y.n_tt, Y.n_tl, Y.n_lt, Y.n_ll, Y.n_gcd, Y.ix_t0, Y.ix_t1, Y.ix_t2, Y.ix_l0, Y.ix_l1, Y.l_tup, Y.l_lst, Y.r_tup, Y.r_lst, List.map_cons, List.map_nil, List.cons_append, List.nil_append, List.replicate, List.getElem?_cons_zero, List.getElem?_cons_succ, List.length_cons, List.length_nil, List.set_cons_zero, List.set_cons_succ, if_true, Bool.false_eq_true, if_false, Bool.not_true, Bool.not_false, Nat.reduceLeDiff, Nat.reduceAdd, Option.isSome], fun _ => by simp only [wipeD, evx_v, evx_k, evx_g, evx_bin, evx_cmp, evx_chn, evx_neg, evx_nt, evx_and, evx_or, evx_ite, evx_tup, evx_lst, evx_nlst, evx_ix, evx_sl, evx_rev, evx_app, evx_join, evx_call, evx_callv, evx_lam, evx_bi, evx_isi, exx_asg, exx_setix, exx_ex, exx_ite, exx_ret, exx_ret0, exx_brk, exx_cnt, exx_pas, exx_rai, Y.b_ok, Y.b_ex, Y.o_ok, Y.o_ex, Y.e_nil, Y.e_cons, Y.eo_none, Y.eo_some, Y.s_nil, Y.s_cons, Y.t_bl, Y.t_int, Y.t_tup, Y.t_lst, Y.t_non, Y.x_and, Y.x_or, Y.x_nt, Y.x_v, Y.x_k, Y.x_cmp, Y.x_chn, Y.x_call, Y.x_callv, Y.x_bi, Y.x_isi, Y.x_exi, Y.x_ix, Y.x_bin, Y.p_n, Y.p_t, Y.p_tl, Y.ps_cons, Y.ps_nil, Y.i_v, Y.i_ix, Y.i_tup, Y.i_lst, Y.i_k, Y.i_bin, Y.i_call, Y.i_sl, Y.i_rev, Y.i_lc, Y.i_rng, Y.i_rng2, Y.i_zip, Y.i_enum, Y.q_t, Y.q_l, Y.q_z, Y.q_zt, Y.q_e, Y.sz, Y.a_int, Y.a_tup, Y.a_lst, Y.su_int, Y.mo_int, Y.mu_intR, Y.mu_intL, Y.fd_intS, Y.po_int, Y.c_lt, Y.c_le, Y.c_gt, Y.c_ge, Y.cc_le, Y.cc_lt, Y.c_isn_n, Y.c_isn_b, Y.c_isn_i, Y.c_isn_s, Y.c_isn_t, Y.c_isn_l, Y.c_nisn_n, Y.c_nisn_b, Y.c_nisn_i, Y.c_nisn_s, Y.c_nisn_t, Y.c_nisn_l, Y.c_eq, Y.c_ne, Y.n_tup, Y.n_lst, Y.n_int, Y.n_abs, Y.n_tt, Y.n_tl, Y.n_lt, Y.n_ll, Y.n_gcd, Y.ix_t0, Y.ix_t1, Y.ix_t2, Y.ix_l0, Y.ix_l1, Y.l_tup, Y.l_lst, Y.r_tup, Y.r_lst, List.map_cons, List.map_nil, List.cons_append, List.nil_append, List.replicate, List.getElem?_cons_zero, List.getElem?_cons_succ, List.length_cons, List.length_nil, List.set_cons_zero, List.set_cons_succ, if_true, Bool.false_eq_true, if_false, Bool.not_true, Bool.not_false, Nat.reduceLeDiff, Nat.reduceAdd]⟩)
  have hz : (((List.range os.length).filter fun i => (fA w os i).isSome).map fun i => encO (fA w os i)).length ≤ 50 := by
    rw [List.length_map]
    exact Nat.le_trans (List.length_filter_le _ _) (by simp; omega)
  have e3 := Y.a_lst (Cup c []) (xs := ((List.range os.length).filter fun i => (fA w os i).isSome).map fun i => encO (fA w os i)) (ys := [.non]) (by simp only [List.length_singleton]; omega)
  have e4 : index (.lst ((((List.range os.length).filter fun i => (fA w os i).isSome).map fun i => encO (fA w os i)) ++ [.non])) (.int 0) (Cup c []) = .ok (encO (fF w os)) (Cup c []) := by
    rw [show (0 : Int) = ((0 : Nat) : Int) from rfl, Y.ix_l, first_of]
    rfl
  rw [ca_x (f := b19) rfl (by decide +kernel) (by decide +kernel) rfl rfl]
  simp only [b19, evx_v, evx_k, evx_g, evx_bin, evx_cmp, evx_chn, evx_neg, evx_nt, evx_and, evx_or, evx_ite, evx_tup, evx_lst, evx_nlst, evx_ix, evx_sl, evx_rev, evx_app, evx_join, evx_call, evx_callv, evx_lam, evx_bi, evx_isi, exx_asg, exx_setix, exx_ex, exx_ite, exx_ret, exx_ret0, exx_brk, exx_cnt, exx_pas, exx_rai, Y.b_ok, Y.b_ex, Y.o_ok, Y.o_ex, Y.e_nil, Y.e_cons, Y.eo_none, Y.eo_some, Y.s_nil, Y.s_cons, Y.t_bl, Y.t_int, Y.t_tup, Y.t_lst, Y.t_non, Y.x_and, Y.x_or, Y.x_nt, Y.x_v, Y.x_k, Y.x_cmp, Y.x_chn, Y.x_call, Y.x_callv, Y.x_bi, Y.x_isi, Y.x_exi, Y.x_ix, Y.x_bin, Y.p_n, Y.p_t, Y.p_tl, Y.ps_cons, Y.ps_nil, Y.i_v, Y.i_ix, Y.i_tup, Y.i_lst, Y.i_k, Y.i_bin, Y.i_call, Y.i_sl, Y.i_rev, Y.i_lc, Y.i_rng, Y.i_rng2, Y.i_zip, Y.i_enum, Y.q_t, Y.q_l, Y.q_z, Y.q_zt, Y.q_e, Y.sz, Y.a_int, Y.a_tup, Y.a_lst, Y.su_int, Y.mo_int, Y.mu_intR, Y.mu_intL, Y.fd_intS, Y.po_int, Y.c_lt, Y.c_le, Y.c_gt, Y.c_ge, Y.cc_le, Y.cc_lt, Y.c_isn_n, Y.c_isn_b, Y.c_isn_i, Y.c_isn_s, Y.c_isn_t, Y.c_isn_l, Y.c_nisn_n, Y.c_nisn_b, Y.c_nisn_i, Y.c_nisn_s, Y.c_nisn_t, Y.c_nisn_l, Y.c_eq, Y.c_ne, Y.n_tup, Y.n_lst, Y.n_int, Y.n_abs, Y.n_tt, Y.n_tl, Y.n_lt, Y.n_ll, Y.n_gcd, Y.ix_t0, Y.ix_t1, Y.ix_t2, Y.ix_l0, Y.ix_l1, Y.l_tup, Y.l_lst, Y.r_tup, Y.r_lst, List.map_cons, List.map_nil, List.cons_append, List.nil_append, List.replicate, List.getElem?_cons_zero, List.getElem?_cons_succ, List.length_cons, List.length_nil, List.set_cons_zero, List.set_cons_succ, if_true, Bool.false_eq_true, if_false, Bool.not_true, Bool.not_false, Nat.reduceLeDiff, Nat.reduceAdd, kn0, kn1, kn2, kn3, kn4, kn5, kn6, kn7, kn8, kn9, kn10, kn11, kn12, kn13, kn14, kn15, kn16, kn17, kn18, kn19, kn20, kn21, kn22, kn23, kn24, kn25, kn26, kn27, kn28, kn29, kn30, kn31, kn32, kn33, kn34, kn35, kn37, kn38, kn39, e1, e2, e3, e4]
  exact end_rt gC (fF_under w os).1
theorem s_code_fault (w : Nat) (hw : w < 4) (os : List Od) (hl : os.length ≤ 50) : (cl (n + 8)).ca 22 [stD w, .tup (os.map en)] (Cup c []) = .ok (encO (fF w os)) (Cup c []) := by
  have e1 := t_setting c (n := n) w hw
  have e2 := s_need_code (n := n + 3) (c := c) os hl
  have e3 := s_fault_in (n := n + 3) (c := c) w hw os hl
  rw [ca_x (f := b22) rfl (by decide +kernel) (by decide +kernel) rfl rfl]
  simp only [b22, evx_v, evx_k, evx_g, evx_bin, evx_cmp, evx_chn, evx_neg, evx_nt, evx_and, evx_or, evx_ite, evx_tup, evx_lst, evx_nlst, evx_ix, evx_sl, evx_rev, evx_app, evx_join, evx_call, evx_callv, evx_lam, evx_bi, evx_isi, exx_asg, exx_setix, exx_ex, exx_ite, exx_ret, exx_ret0, exx_brk, exx_cnt, exx_pas, exx_rai, Y.b_ok, Y.b_ex, Y.o_ok, Y.o_ex, Y.e_nil, Y.e_cons, Y.eo_none, Y.eo_some, Y.s_nil, Y.s_cons, Y.t_bl, Y.t_int, Y.t_tup, Y.t_lst, Y.t_non, Y.x_and, Y.x_or, Y.x_nt, Y.x_v, Y.x_k, Y.x_cmp, Y.x_chn, Y.x_call, Y.x_callv, Y.x_bi, Y.x_isi, Y.x_exi, Y.x_ix, Y.x_bin, Y.p_n, Y.p_t, Y.p_tl, Y.ps_cons, Y.ps_nil, Y.i_v, Y.i_ix, Y.i_tup, Y.i_lst, Y.i_k, Y.i_bin, Y.i_call, Y.i_sl, Y.i_rev, Y.i_lc, Y.i_rng, Y.i_rng2, Y.i_zip, Y.i_enum, Y.q_t, Y.q_l, Y.q_z, Y.q_zt, Y.q_e, Y.sz, Y.a_int, Y.a_tup, Y.a_lst, Y.su_int, Y.mo_int, Y.mu_intR, Y.mu_intL, Y.fd_intS, Y.po_int, Y.c_lt, Y.c_le, Y.c_gt, Y.c_ge, Y.cc_le, Y.cc_lt, Y.c_isn_n, Y.c_isn_b, Y.c_isn_i, Y.c_isn_s, Y.c_isn_t, Y.c_isn_l, Y.c_nisn_n, Y.c_nisn_b, Y.c_nisn_i, Y.c_nisn_s, Y.c_nisn_t, Y.c_nisn_l, Y.c_eq, Y.c_ne, Y.n_tup, Y.n_lst, Y.n_int, Y.n_abs, Y.n_tt, Y.n_tl, Y.n_lt, Y.n_ll, Y.n_gcd, Y.ix_t0, Y.ix_t1, Y.ix_t2, Y.ix_l0, Y.ix_l1, Y.l_tup, Y.l_lst, Y.r_tup, Y.r_lst, List.map_cons, List.map_nil, List.cons_append, List.nil_append, List.replicate, List.getElem?_cons_zero, List.getElem?_cons_succ, List.length_cons, List.length_nil, List.set_cons_zero, List.set_cons_succ, if_true, Bool.false_eq_true, if_false, Bool.not_true, Bool.not_false, Nat.reduceLeDiff, Nat.reduceAdd, kn0, kn1, kn2, kn3, kn4, kn5, kn6, kn7, kn8, kn9, kn10, kn11, kn12, kn13, kn14, kn15, kn16, kn17, kn18, kn19, kn20, kn21, kn22, kn23, kn24, kn25, kn26, kn27, kn28, kn29, kn30, kn31, kn32, kn33, kn34, kn35, kn37, kn38, kn39, e1, e2, e3]
  exact end_rt gC (fF_under w os).1
end
end K47
end
section
set_option Elab.async false
set_option linter.all false
set_option maxRecDepth 100000
set_option autoImplicit false
namespace K47
open IT
/-! the law's own first fault -/
theorem forl_find {α : Type} {enc : α → D} {f : D → Env → Sto → O} {F : α → Option D} {S : Sto} (P : Env → Prop) : ∀ (ys : List α) (δ : Env), P δ →
    (∀ y ∈ ys, ∀ δ, P δ → (∃ δ', f (enc y) δ S = .nx δ' S ∧ P δ' ∧ F y = none) ∨ (∃ d, f (enc y) δ S = .rt d S ∧ F y = some d)) →
    (∃ δ', forl (stands []) f (ys.map enc) δ S = .nx δ' S ∧ P δ' ∧ ys.findSome? F = none) ∨ (∃ d, forl (stands []) f (ys.map enc) δ S = .rt d S ∧ ys.findSome? F = some d)
  | [], δ, h, _ => .inl ⟨δ, by rw [List.map_nil, forl, if_pos (Y.st_nil S)], h, rfl⟩
  | y :: ys, δ, h, hs => by
    rcases hs y List.mem_cons_self δ h with ⟨δ1, e1, h1, f1⟩ | ⟨d, e1, f1⟩
    · rcases forl_find P ys δ1 h1 (fun z hz => hs z (List.mem_cons_of_mem _ hz)) with ⟨δ2, e2, h2, f2⟩ | ⟨d, e2, f2⟩
      · refine .inl ⟨δ2, ?_, h2, by rw [List.findSome?_cons, f1]; exact f2⟩
        rw [List.map_cons, forl, if_pos (Y.st_nil S), e1]
        exact e2
      · refine .inr ⟨d, ?_, by rw [List.findSome?_cons, f1]; exact f2⟩
        rw [List.map_cons, forl, if_pos (Y.st_nil S), e1]
        exact e2
    · refine .inr ⟨d, ?_, by rw [List.findSome?_cons, f1]⟩
      rw [List.map_cons, forl, if_pos (Y.st_nil S), e1]
theorem enum_en : ∀ (l : List Od) (i : Nat), enumD i (l.map en) = (l.zipIdx i).map fun q => D.tup [.int q.2, en q.1]
  | [], _ => rfl
  | a :: r, i => by
    rw [List.map_cons, enumD, enum_en r (i + 1), List.zipIdx_cons, List.map_cons]
    try rfl
def fB : List IT.S := [
    .asg (.n 4) (.call 33 [(.v 0), (.v 3)]),
    .ite (.cmp .is (.v 4) (.k .non)) [
      .ret (some (.tup [(.v 2), (.k (.str ("none" : PySem.Str)))]))] [],
    .ite (.cmp .in_ (.v 3) (.sl (.v 1) none (some (.v 2)))) [
      .ret (some (.tup [(.v 2), (.k (.str ("twice" : PySem.Str)))]))] [],
    .asg (.n 5) (.lc false (.v 7) (.n 7) (.v 4) (some (.cmp .notin (.v 7) (.sl (.v 1) none (some (.v 2))))) [6, 7]),
    .ite (.cmp .ne (.v 5) (.lst [])) [
      .ret (some (.tup [(.v 2), (.k (.str ("need" : PySem.Str))), (.ix (.v 5) (.k (.int 0)))]))] []]
section
variable {n : Nat} {c : Cp}
def eF (w : Nat) (os : List Od) (t2 t3 t4 t5 : Option D) : Env := [some (stD w), some (.tup (os.map en)), t2, t3, t4, t5, none, none]
theorem s_lturn (w : Nat) (hw : w < 4) (os : List Od) (i : Nat) (o : Od) (ho : os[i]? = some o) (t2 t3 t4 t5 : Option D) :
    (∃ u2 u3 u4 u5, forF (.t [.n 2, .n 3]) (exs (exx (cl (n + 2)) LL.G {}) fB) (.tup [.int i, en o]) (eF w os t2 t3 t4 t5) (Cup c []) = .nx (eF w os u2 u3 u4 u5) (Cup c []) ∧ fA w os i = none) ∨
    (∃ d, forF (.t [.n 2, .n 3]) (exs (exx (cl (n + 2)) LL.G {}) fB) (.tup [.int i, en o]) (eF w os t2 t3 t4 t5) (Cup c []) = .rt d (Cup c []) ∧ fA w os i = some d) := by
  have e2 := t_lneeds c (n := n) w hw o
  cases hn : nd w o with
  | none =>
    rw [hn] at e2
    simp only [encL] at e2
    refine .inr ⟨_, ?_, fA_n ho hn⟩
    simp only [forF, fB, eF, evx_v, evx_k, evx_g, evx_bin, evx_cmp, evx_chn, evx_neg, evx_nt, evx_and, evx_or, evx_ite, evx_tup, evx_lst, evx_nlst, evx_ix, evx_sl, evx_rev, evx_app, evx_join, evx_call, evx_callv, evx_lam, evx_bi, evx_isi, exx_asg, exx_setix, exx_ex, exx_ite, exx_ret, exx_ret0, exx_brk, exx_cnt, exx_pas, exx_rai, Y.b_ok, Y.b_ex, Y.o_ok, Y.o_ex, Y.e_nil, Y.e_cons, Y.eo_none, Y.eo_some, Y.s_nil, Y.s_cons, Y.t_bl, Y.t_int, Y.t_tup, Y.t_lst, Y.t_non, Y.x_and, Y.x_or, Y.x_nt, Y.x_v, Y.x_k, Y.x_cmp, Y.x_chn, Y.x_call, Y.x_callv, Y.x_bi, Y.x_isi, Y.x_exi, Y.x_ix, Y.x_bin, Y.p_n, Y.p_t, Y.p_tl, Y.ps_cons, Y.ps_nil, Y.i_v, Y.i_ix, Y.i_tup, Y.i_lst, Y.i_k, Y.i_bin, Y.i_call, Y.i_sl, Y.i_rev, Y.i_lc, Y.i_rng, Y.i_rng2, Y.i_zip, Y.i_enum, Y.q_t, Y.q_l, Y.q_z, Y.q_zt, Y.q_e, Y.sz, Y.a_int, Y.a_tup, Y.a_lst, Y.su_int, Y.mo_int, Y.mu_intR, Y.mu_intL, Y.fd_intS, Y.po_int, Y.c_lt, Y.c_le, Y.c_gt, Y.c_ge, Y.cc_le, Y.cc_lt, Y.c_isn_n, Y.c_isn_b, Y.c_isn_i, Y.c_isn_s, Y.c_isn_t, Y.c_isn_l, Y.c_nisn_n, Y.c_nisn_b, Y.c_nisn_i, Y.c_nisn_s, Y.c_nisn_t, Y.c_nisn_l, Y.c_eq, Y.c_ne, Y.n_tup, Y.n_lst, Y.n_int, Y.n_abs, Y.n_tt, Y.n_tl, Y.n_lt, Y.n_ll, Y.n_gcd, Y.ix_t0, Y.ix_t1, Y.ix_t2, Y.ix_l0, Y.ix_l1, Y.l_tup, Y.l_lst, Y.r_tup, Y.r_lst, List.map_cons, List.map_nil, List.cons_append, List.nil_append, List.replicate, List.getElem?_cons_zero, List.getElem?_cons_succ, List.length_cons, List.length_nil, List.set_cons_zero, List.set_cons_succ, if_true, Bool.false_eq_true, if_false, Bool.not_true, Bool.not_false, Nat.reduceLeDiff, Nat.reduceAdd, kn0, kn1, kn2, kn3, kn4, kn5, kn6, kn7, kn8, kn9, kn10, kn11, kn12, kn13, kn14, kn15, kn16, kn17, kn18, kn19, kn20, kn21, kn22, kn23, kn24, kn25, kn26, kn27, kn28, kn29, kn30, kn31, kn32, kn33, kn34, kn35, kn37, kn38, kn39, e2]
  | some ns =>
    rw [hn] at e2
    simp only [encL] at e2
    have e3 := c_in (Cup c []) o (os.take i)
    by_cases h1 : o ∈ os.take i
    · simp only [h1, decide_true] at e3
      refine .inr ⟨_, ?_, by rw [fA_s ho hn, fO, if_pos h1]⟩
      simp only [forF, fB, eF, evx_v, evx_k, evx_g, evx_bin, evx_cmp, evx_chn, evx_neg, evx_nt, evx_and, evx_or, evx_ite, evx_tup, evx_lst, evx_nlst, evx_ix, evx_sl, evx_rev, evx_app, evx_join, evx_call, evx_callv, evx_lam, evx_bi, evx_isi, exx_asg, exx_setix, exx_ex, exx_ite, exx_ret, exx_ret0, exx_brk, exx_cnt, exx_pas, exx_rai, Y.b_ok, Y.b_ex, Y.o_ok, Y.o_ex, Y.e_nil, Y.e_cons, Y.eo_none, Y.eo_some, Y.s_nil, Y.s_cons, Y.t_bl, Y.t_int, Y.t_tup, Y.t_lst, Y.t_non, Y.x_and, Y.x_or, Y.x_nt, Y.x_v, Y.x_k, Y.x_cmp, Y.x_chn, Y.x_call, Y.x_callv, Y.x_bi, Y.x_isi, Y.x_exi, Y.x_ix, Y.x_bin, Y.p_n, Y.p_t, Y.p_tl, Y.ps_cons, Y.ps_nil, Y.i_v, Y.i_ix, Y.i_tup, Y.i_lst, Y.i_k, Y.i_bin, Y.i_call, Y.i_sl, Y.i_rev, Y.i_lc, Y.i_rng, Y.i_rng2, Y.i_zip, Y.i_enum, Y.q_t, Y.q_l, Y.q_z, Y.q_zt, Y.q_e, Y.sz, Y.a_int, Y.a_tup, Y.a_lst, Y.su_int, Y.mo_int, Y.mu_intR, Y.mu_intL, Y.fd_intS, Y.po_int, Y.c_lt, Y.c_le, Y.c_gt, Y.c_ge, Y.cc_le, Y.cc_lt, Y.c_isn_n, Y.c_isn_b, Y.c_isn_i, Y.c_isn_s, Y.c_isn_t, Y.c_isn_l, Y.c_nisn_n, Y.c_nisn_b, Y.c_nisn_i, Y.c_nisn_s, Y.c_nisn_t, Y.c_nisn_l, Y.c_eq, Y.c_ne, Y.n_tup, Y.n_lst, Y.n_int, Y.n_abs, Y.n_tt, Y.n_tl, Y.n_lt, Y.n_ll, Y.n_gcd, Y.ix_t0, Y.ix_t1, Y.ix_t2, Y.ix_l0, Y.ix_l1, Y.l_tup, Y.l_lst, Y.r_tup, Y.r_lst, List.map_cons, List.map_nil, List.cons_append, List.nil_append, List.replicate, List.getElem?_cons_zero, List.getElem?_cons_succ, List.length_cons, List.length_nil, List.set_cons_zero, List.set_cons_succ, if_true, Bool.false_eq_true, if_false, Bool.not_true, Bool.not_false, Nat.reduceLeDiff, Nat.reduceAdd, kn0, kn1, kn2, kn3, kn4, kn5, kn6, kn7, kn8, kn9, kn10, kn11, kn12, kn13, kn14, kn15, kn16, kn17, kn18, kn19, kn20, kn21, kn22, kn23, kn24, kn25, kn26, kn27, kn28, kn29, kn30, kn31, kn32, kn33, kn34, kn35, kn37, kn38, kn39, e2, cut_en, e3]
    · simp only [h1, decide_false] at e3
      have e4 := lc_filter (c := cl (n + 2)) (G := LL.G) (δ := [some (stD w), some (.tup (os.map en)), some (.int i), some (en o), some (.lst (ns.map en)), t5, none, none]) (S := Cup c []) (S1 := Cup c []) (it := .v 4) (tg := .n 7) (own := [6, 7]) (elt := .v 7) (t := .cmp .notin (.v 7) (.sl (.v 1) none (some (.v 2)))) (gs := []) (enc := en) (ys := ns) en (fun x => !decide (x ∈ os.take i)) (by simp only [evx_v, evx_k, evx_g, evx_bin, evx_cmp, evx_chn, evx_neg, evx_nt, evx_and, evx_or, evx_ite, evx_tup, evx_lst, evx_nlst, evx_ix, evx_sl, evx_rev, evx_app, evx_join, evx_call, evx_callv, evx_lam, evx_bi, evx_isi, exx_asg, exx_setix, exx_ex, exx_ite, exx_ret, exx_ret0, exx_brk, exx_cnt, exx_pas, exx_rai, Y.b_ok, Y.b_ex, Y.o_ok, Y.o_ex, Y.e_nil, Y.e_cons, Y.eo_none, Y.eo_some, Y.s_nil, Y.s_cons, Y.t_bl, Y.t_int, Y.t_tup, Y.t_lst, Y.t_non, Y.x_and, Y.x_or, Y.x_nt, Y.x_v, Y.x_k, Y.x_cmp, Y.x_chn, Y.x_call, Y.x_callv, Y.x_bi, Y.x_isi, Y.x_exi, Y.x_ix, Y.x_bin, Y.p_n, Y.p_t, Y.p_tl, Y.ps_cons, Y.ps_nil, Y.i_v, Y.i_ix, Y.i_tup, Y.i_lst, Y.i_k, Y.i_bin, Y.i_call, Y.i_sl, Y.i_rev, Y.i_lc, Y.i_rng, Y.i_rng2, Y.i_zip, Y.i_enum, Y.q_t, Y.q_l, Y.q_z, Y.q_zt, Y.q_e, Y.sz, Y.a_int, Y.a_tup, Y.a_lst, Y.su_int, Y.mo_int, Y.mu_intR, Y.mu_intL, Y.fd_intS, Y.po_int, Y.c_lt, Y.c_le, Y.c_gt, Y.c_ge, Y.cc_le, Y.cc_lt, Y.c_isn_n, Y.c_isn_b, Y.c_isn_i, Y.c_isn_s, Y.c_isn_t, Y.c_isn_l, Y.c_nisn_n, Y.c_nisn_b, Y.c_nisn_i, Y.c_nisn_s, Y.c_nisn_t, Y.c_nisn_l, Y.c_eq, Y.c_ne, Y.n_tup, Y.n_lst, Y.n_int, Y.n_abs, Y.n_tt, Y.n_tl, Y.n_lt, Y.n_ll, Y.n_gcd, Y.ix_t0, Y.ix_t1, Y.ix_t2, Y.ix_l0, Y.ix_l1, Y.l_tup, Y.l_lst, Y.r_tup, Y.r_lst, List.map_cons, List.map_nil, List.cons_append, List.nil_append, List.replicate, List.getElem?_cons_zero, List.getElem?_cons_succ, List.length_cons, List.length_nil, List.set_cons_zero, List.set_cons_succ, if_true, Bool.false_eq_true, if_false, Bool.not_true, Bool.not_false, Nat.reduceLeDiff, Nat.reduceAdd]) rfl (by have := nd_small w o ns hn; omega) (fun y _ => ⟨_, Y.p_n _ _ _ _, by simp only [wipeD, evx_v, evx_k, evx_g, evx_bin, evx_cmp, evx_chn, evx_neg, evx_nt, evx_and, evx_or, evx_ite, evx_tup, evx_lst, evx_nlst, evx_ix, evx_sl, evx_rev, evx_app, evx_join, evx_call, evx_callv, evx_lam, evx_bi, evx_isi, exx_asg, exx_setix, exx_ex, exx_ite, exx_ret, exx_ret0, exx_brk, exx_cnt, exx_pas, exx_rai, Y.b_ok, Y.b_ex, Y.o_ok, Y.o_ex, Y.e_nil, Y.e_cons, Y.eo_none, Y.eo_some, Y.s_nil, Y.s_cons, Y.t_bl, Y.t_int, Y.t_tup, Y.t_lst, Y.t_non, Y.x_and, Y.x_or, Y.x_nt, Y.x_v, Y.x_k, Y.x_cmp, Y.x_chn, Y.x_call, Y.x_callv, Y.x_bi, Y.x_isi, Y.x_exi, Y.x_ix, Y.x_bin, Y.p_n, Y.p_t, Y.p_tl, Y.ps_cons, Y.ps_nil, Y.i_v, Y.i_ix, Y.i_tup, Y.i_lst, Y.i_k, Y.i_bin, Y.i_call, Y.i_sl, Y.i_rev, Y.i_lc, Y.i_rng, Y.i_rng2, Y.i_zip, Y.i_enum, Y.q_t, Y.q_l, Y.q_z, Y.q_zt, Y.q_e, Y.sz, Y.a_int, Y.a_tup, Y.a_lst, Y.su_int, Y.mo_int, Y.mu_intR, Y.mu_intL, Y.fd_intS, Y.po_int, Y.c_lt, Y.c_le, Y.c_gt, Y.c_ge, Y.cc_le, Y.cc_lt, Y.c_isn_n, Y.c_isn_b, Y.c_isn_i, Y.c_isn_s, Y.c_isn_t, Y.c_isn_l, Y.c_nisn_n, Y.c_nisn_b, Y.c_nisn_i, Y.c_nisn_s, Y.c_nisn_t, Y.c_nisn_l, Y.c_eq, Y.c_ne, Y.n_tup, Y.n_lst, Y.n_int, Y.n_abs, Y.n_tt, Y.n_tl, Y.n_lt, Y.n_ll, Y.n_gcd, Y.ix_t0, Y.ix_t1, Y.ix_t2, Y.ix_l0, Y.ix_l1, Y.l_tup, Y.l_lst, Y.r_tup, Y.r_lst, List.map_cons, List.map_nil, List.cons_append, List.nil_append, List.replicate, List.getElem?_cons_zero, List.getElem?_cons_succ, List.length_cons, List.length_nil, List.set_cons_zero, List.set_cons_succ, if_true, Bool.false_eq_true, if_false, Bool.not_true, Bool.not_false, Nat.reduceLeDiff, Nat.reduceAdd, kn0, kn1, kn2, kn3, kn4, kn5, kn6, kn7, kn8, kn9, kn10, kn11, kn12, kn13, kn14, kn15, kn16, kn17, kn18, kn19, kn20, kn21, kn22, kn23, kn24, kn25, kn26, kn27, kn28, kn29, kn30, kn31, kn32, kn33, kn34, kn35, kn37, kn38, kn39, cut_en, c_notin], fun _ => by simp only [wipeD, evx_v, evx_k, evx_g, evx_bin, evx_cmp, evx_chn, evx_neg, evx_nt, evx_and, evx_or, evx_ite, evx_tup, evx_lst, evx_nlst, evx_ix, evx_sl, evx_rev, evx_app, evx_join, evx_call, evx_callv, evx_lam, evx_bi, evx_isi, exx_asg, exx_setix, exx_ex, exx_ite, exx_ret, exx_ret0, exx_brk, exx_cnt, exx_pas, exx_rai, Y.b_ok, Y.b_ex, Y.o_ok, Y.o_ex, Y.e_nil, Y.e_cons, Y.eo_none, Y.eo_some, Y.s_nil, Y.s_cons, Y.t_bl, Y.t_int, Y.t_tup, Y.t_lst, Y.t_non, Y.x_and, Y.x_or, Y.x_nt, Y.x_v, Y.x_k, Y.x_cmp, Y.x_chn, Y.x_call, Y.x_callv, Y.x_bi, Y.x_isi, Y.x_exi, Y.x_ix, Y.x_bin, Y.p_n, Y.p_t, Y.p_tl, Y.ps_cons, Y.ps_nil, Y.i_v, Y.i_ix, Y.i_tup, Y.i_lst, Y.i_k, Y.i_bin, Y.i_call, Y.i_sl, Y.i_rev, Y.i_lc, Y.i_rng, Y.i_rng2, Y.i_zip, Y.i_enum, Y.q_t, Y.q_l, Y.q_z, Y.q_zt, Y.q_e, Y.sz, Y.a_int, Y.a_tup, Y.a_lst, Y.su_int, Y.mo_int, Y.mu_intR, Y.mu_intL, Y.fd_intS, Y.po_int, Y.c_lt, Y.c_le, Y.c_gt, Y.c_ge, Y.cc_le, Y.cc_lt, Y.c_isn_n, Y.c_isn_b, Y.c_isn_i, Y.c_isn_s, Y.c_isn_t, Y.c_isn_l, Y.c_nisn_n, Y.c_nisn_b, Y.c_nisn_i, Y.c_nisn_s, Y.c_nisn_t, Y.c_nisn_l, Y.c_eq, Y.c_ne, Y.n_tup, Y.n_lst, Y.n_int, Y.n_abs, Y.n_tt, Y.n_tl, Y.n_lt, Y.n_ll, Y.n_gcd, Y.ix_t0, Y.ix_t1, Y.ix_t2, Y.ix_l0, Y.ix_l1, Y.l_tup, Y.l_lst, Y.r_tup, Y.r_lst, List.map_cons, List.map_nil, List.cons_append, List.nil_append, List.replicate, List.getElem?_cons_zero, List.getElem?_cons_succ, List.length_cons, List.length_nil, List.set_cons_zero, List.set_cons_succ, if_true, Bool.false_eq_true, if_false, Bool.not_true, Bool.not_false, Nat.reduceLeDiff, Nat.reduceAdd]⟩)
      have e5 := c_ne (Cup c []) (ns.filter fun x => !decide (x ∈ os.take i))
      cases hf : ns.filter (fun x => !decide (x ∈ os.take i)) with
      | nil =>
        rw [hf] at e4 e5
        simp only [List.map_nil, List.isEmpty_nil, Bool.not_true] at e4 e5
        refine .inl ⟨some (.int i), some (en o), some (.lst (ns.map en)), some (.lst []), ?_, by rw [fA_s ho hn, fO, if_neg h1, hf]⟩
        simp only [forF, fB, eF, evx_v, evx_k, evx_g, evx_bin, evx_cmp, evx_chn, evx_neg, evx_nt, evx_and, evx_or, evx_ite, evx_tup, evx_lst, evx_nlst, evx_ix, evx_sl, evx_rev, evx_app, evx_join, evx_call, evx_callv, evx_lam, evx_bi, evx_isi, exx_asg, exx_setix, exx_ex, exx_ite, exx_ret, exx_ret0, exx_brk, exx_cnt, exx_pas, exx_rai, Y.b_ok, Y.b_ex, Y.o_ok, Y.o_ex, Y.e_nil, Y.e_cons, Y.eo_none, Y.eo_some, Y.s_nil, Y.s_cons, Y.t_bl, Y.t_int, Y.t_tup, Y.t_lst, Y.t_non, Y.x_and, Y.x_or, Y.x_nt, Y.x_v, Y.x_k, Y.x_cmp, Y.x_chn, Y.x_call, Y.x_callv, Y.x_bi, Y.x_isi, Y.x_exi, Y.x_ix, Y.x_bin, Y.p_n, Y.p_t, Y.p_tl, Y.ps_cons, Y.ps_nil, Y.i_v, Y.i_ix, Y.i_tup, Y.i_lst, Y.i_k, Y.i_bin, Y.i_call, Y.i_sl, Y.i_rev, Y.i_lc, Y.i_rng, Y.i_rng2, Y.i_zip, Y.i_enum, Y.q_t, Y.q_l, Y.q_z, Y.q_zt, Y.q_e, Y.sz, Y.a_int, Y.a_tup, Y.a_lst, Y.su_int, Y.mo_int, Y.mu_intR, Y.mu_intL, Y.fd_intS, Y.po_int, Y.c_lt, Y.c_le, Y.c_gt, Y.c_ge, Y.cc_le, Y.cc_lt, Y.c_isn_n, Y.c_isn_b, Y.c_isn_i, Y.c_isn_s, Y.c_isn_t, Y.c_isn_l, Y.c_nisn_n, Y.c_nisn_b, Y.c_nisn_i, Y.c_nisn_s, Y.c_nisn_t, Y.c_nisn_l, Y.c_eq, Y.c_ne, Y.n_tup, Y.n_lst, Y.n_int, Y.n_abs, Y.n_tt, Y.n_tl, Y.n_lt, Y.n_ll, Y.n_gcd, Y.ix_t0, Y.ix_t1, Y.ix_t2, Y.ix_l0, Y.ix_l1, Y.l_tup, Y.l_lst, Y.r_tup, Y.r_lst, List.map_cons, List.map_nil, List.cons_append, List.nil_append, List.replicate, List.getElem?_cons_zero, List.getElem?_cons_succ, List.length_cons, List.length_nil, List.set_cons_zero, List.set_cons_succ, if_true, Bool.false_eq_true, if_false, Bool.not_true, Bool.not_false, Nat.reduceLeDiff, Nat.reduceAdd, kn0, kn1, kn2, kn3, kn4, kn5, kn6, kn7, kn8, kn9, kn10, kn11, kn12, kn13, kn14, kn15, kn16, kn17, kn18, kn19, kn20, kn21, kn22, kn23, kn24, kn25, kn26, kn27, kn28, kn29, kn30, kn31, kn32, kn33, kn34, kn35, kn37, kn38, kn39, e2, cut_en, e3, e4, e5]
      | cons l r =>
        rw [hf] at e4 e5
        simp only [List.map_cons, List.isEmpty_cons, Bool.not_false] at e4 e5
        refine .inr ⟨_, ?_, by rw [fA_s ho hn, fO, if_neg h1, hf]⟩
        simp only [forF, fB, eF, evx_v, evx_k, evx_g, evx_bin, evx_cmp, evx_chn, evx_neg, evx_nt, evx_and, evx_or, evx_ite, evx_tup, evx_lst, evx_nlst, evx_ix, evx_sl, evx_rev, evx_app, evx_join, evx_call, evx_callv, evx_lam, evx_bi, evx_isi, exx_asg, exx_setix, exx_ex, exx_ite, exx_ret, exx_ret0, exx_brk, exx_cnt, exx_pas, exx_rai, Y.b_ok, Y.b_ex, Y.o_ok, Y.o_ex, Y.e_nil, Y.e_cons, Y.eo_none, Y.eo_some, Y.s_nil, Y.s_cons, Y.t_bl, Y.t_int, Y.t_tup, Y.t_lst, Y.t_non, Y.x_and, Y.x_or, Y.x_nt, Y.x_v, Y.x_k, Y.x_cmp, Y.x_chn, Y.x_call, Y.x_callv, Y.x_bi, Y.x_isi, Y.x_exi, Y.x_ix, Y.x_bin, Y.p_n, Y.p_t, Y.p_tl, Y.ps_cons, Y.ps_nil, Y.i_v, Y.i_ix, Y.i_tup, Y.i_lst, Y.i_k, Y.i_bin, Y.i_call, Y.i_sl, Y.i_rev, Y.i_lc, Y.i_rng, Y.i_rng2, Y.i_zip, Y.i_enum, Y.q_t, Y.q_l, Y.q_z, Y.q_zt, Y.q_e, Y.sz, Y.a_int, Y.a_tup, Y.a_lst, Y.su_int, Y.mo_int, Y.mu_intR, Y.mu_intL, Y.fd_intS, Y.po_int, Y.c_lt, Y.c_le, Y.c_gt, Y.c_ge, Y.cc_le, Y.cc_lt, Y.c_isn_n, Y.c_isn_b, Y.c_isn_i, Y.c_isn_s, Y.c_isn_t, Y.c_isn_l, Y.c_nisn_n, Y.c_nisn_b, Y.c_nisn_i, Y.c_nisn_s, Y.c_nisn_t, Y.c_nisn_l, Y.c_eq, Y.c_ne, Y.n_tup, Y.n_lst, Y.n_int, Y.n_abs, Y.n_tt, Y.n_tl, Y.n_lt, Y.n_ll, Y.n_gcd, Y.ix_t0, Y.ix_t1, Y.ix_t2, Y.ix_l0, Y.ix_l1, Y.l_tup, Y.l_lst, Y.r_tup, Y.r_lst, List.map_cons, List.map_nil, List.cons_append, List.nil_append, List.replicate, List.getElem?_cons_zero, List.getElem?_cons_succ, List.length_cons, List.length_nil, List.set_cons_zero, List.set_cons_succ, if_true, Bool.false_eq_true, if_false, Bool.not_true, Bool.not_false, Nat.reduceLeDiff, Nat.reduceAdd, kn0, kn1, kn2, kn3, kn4, kn5, kn6, kn7, kn8, kn9, kn10, kn11, kn12, kn13, kn14, kn15, kn16, kn17, kn18, kn19, kn20, kn21, kn22, kn23, kn24, kn25, kn26, kn27, kn28, kn29, kn30, kn31, kn32, kn33, kn34, kn35, kn37, kn38, kn39, e2, cut_en, e3, e4, e5]
theorem find_idx {w : Nat} {os : List Od} : os.zipIdx.findSome? (fun q => fA w os q.2) = fF w os := by
  unfold fF
  rw [List.range_eq_range', ← List.zipIdx_map_snd 0 os, List.findSome?_map]
  rfl
theorem s_lfault (w : Nat) (hw : w < 4) (os : List Od) (hl : os.length ≤ 50) : (cl (n + 3)).ca 34 [stD w, .tup (os.map en)] (Cup c []) = .ok (encO (fF w os)) (Cup c []) := by
  have e0 : enumR (.tup (os.map en)) (Cup c []) = (.ok (os.zipIdx.map (fun q => D.tup [.int q.2, en q.1]), []) (Cup c []) : IT.R _) := by
    rw [q_et, enum_en]
  have hh := forl_find (enc := fun q : Od × Nat => D.tup [.int q.2, en q.1]) (f := forF (.t [.n 2, .n 3]) (exs (exx (cl (n + 2)) LL.G {}) fB)) (F := fun q => fA w os q.2) (S := Cup c []) (fun δ => ∃ t2 t3 t4 t5, δ = eF w os t2 t3 t4 t5) os.zipIdx (eF w os none none none none) ⟨none, none, none, none, rfl⟩ (by
    rintro ⟨o, i⟩ hq δ ⟨t2, t3, t4, t5, rfl⟩
    have ho := List.mk_mem_zipIdx_iff_getElem?.mp hq
    rcases s_lturn (n := n) (c := c) w hw os i o ho t2 t3 t4 t5 with ⟨u2, u3, u4, u5, e, h⟩ | ⟨d, e, h⟩
    · exact .inl ⟨_, e, ⟨u2, u3, u4, u5, rfl⟩, h⟩
    · exact .inr ⟨d, e, h⟩)
  rw [find_idx] at hh
  have hu := (fF_under w os).1
  rw [ca_x (f := b34) (δ := eF w os none none none none) rfl (by decide +kernel) (by decide +kernel) rfl rfl]
  unfold fB at hh
  rcases hh with ⟨δ', e, ⟨t2, t3, t4, t5, rfl⟩, h⟩ | ⟨d, e, h⟩
  · rw [h]
    unfold eF at e ⊢
    simp only [b34, evx_v, evx_k, evx_g, evx_bin, evx_cmp, evx_chn, evx_neg, evx_nt, evx_and, evx_or, evx_ite, evx_tup, evx_lst, evx_nlst, evx_ix, evx_sl, evx_rev, evx_app, evx_join, evx_call, evx_callv, evx_lam, evx_bi, evx_isi, exx_asg, exx_setix, exx_ex, exx_ite, exx_ret, exx_ret0, exx_brk, exx_cnt, exx_pas, exx_rai, Y.b_ok, Y.b_ex, Y.o_ok, Y.o_ex, Y.e_nil, Y.e_cons, Y.eo_none, Y.eo_some, Y.s_nil, Y.s_cons, Y.t_bl, Y.t_int, Y.t_tup, Y.t_lst, Y.t_non, Y.x_and, Y.x_or, Y.x_nt, Y.x_v, Y.x_k, Y.x_cmp, Y.x_chn, Y.x_call, Y.x_callv, Y.x_bi, Y.x_isi, Y.x_exi, Y.x_ix, Y.x_bin, Y.p_n, Y.p_t, Y.p_tl, Y.ps_cons, Y.ps_nil, Y.i_v, Y.i_ix, Y.i_tup, Y.i_lst, Y.i_k, Y.i_bin, Y.i_call, Y.i_sl, Y.i_rev, Y.i_lc, Y.i_rng, Y.i_rng2, Y.i_zip, Y.i_enum, Y.q_t, Y.q_l, Y.q_z, Y.q_zt, Y.q_e, Y.sz, Y.a_int, Y.a_tup, Y.a_lst, Y.su_int, Y.mo_int, Y.mu_intR, Y.mu_intL, Y.fd_intS, Y.po_int, Y.c_lt, Y.c_le, Y.c_gt, Y.c_ge, Y.cc_le, Y.cc_lt, Y.c_isn_n, Y.c_isn_b, Y.c_isn_i, Y.c_isn_s, Y.c_isn_t, Y.c_isn_l, Y.c_nisn_n, Y.c_nisn_b, Y.c_nisn_i, Y.c_nisn_s, Y.c_nisn_t, Y.c_nisn_l, Y.c_eq, Y.c_ne, Y.n_tup, Y.n_lst, Y.n_int, Y.n_abs, Y.n_tt, Y.n_tl, Y.n_lt, Y.n_ll, Y.n_gcd, Y.ix_t0, Y.ix_t1, Y.ix_t2, Y.ix_l0, Y.ix_l1, Y.l_tup, Y.l_lst, Y.r_tup, Y.r_lst, List.map_cons, List.map_nil, List.cons_append, List.nil_append, List.replicate, List.getElem?_cons_zero, List.getElem?_cons_succ, List.length_cons, List.length_nil, List.set_cons_zero, List.set_cons_succ, if_true, Bool.false_eq_true, if_false, Bool.not_true, Bool.not_false, Nat.reduceLeDiff, Nat.reduceAdd, kn0, kn1, kn2, kn3, kn4, kn5, kn6, kn7, kn8, kn9, kn10, kn11, kn12, kn13, kn14, kn15, kn16, kn17, kn18, kn19, kn20, kn21, kn22, kn23, kn24, kn25, kn26, kn27, kn28, kn29, kn30, kn31, kn32, kn33, kn34, kn35, kn37, kn38, kn39, e0, exx_for, e]
    exact end_rt (d := .non) gC rfl
  · rw [h] at hu ⊢
    unfold eF at e ⊢
    simp only [b34, evx_v, evx_k, evx_g, evx_bin, evx_cmp, evx_chn, evx_neg, evx_nt, evx_and, evx_or, evx_ite, evx_tup, evx_lst, evx_nlst, evx_ix, evx_sl, evx_rev, evx_app, evx_join, evx_call, evx_callv, evx_lam, evx_bi, evx_isi, exx_asg, exx_setix, exx_ex, exx_ite, exx_ret, exx_ret0, exx_brk, exx_cnt, exx_pas, exx_rai, Y.b_ok, Y.b_ex, Y.o_ok, Y.o_ex, Y.e_nil, Y.e_cons, Y.eo_none, Y.eo_some, Y.s_nil, Y.s_cons, Y.t_bl, Y.t_int, Y.t_tup, Y.t_lst, Y.t_non, Y.x_and, Y.x_or, Y.x_nt, Y.x_v, Y.x_k, Y.x_cmp, Y.x_chn, Y.x_call, Y.x_callv, Y.x_bi, Y.x_isi, Y.x_exi, Y.x_ix, Y.x_bin, Y.p_n, Y.p_t, Y.p_tl, Y.ps_cons, Y.ps_nil, Y.i_v, Y.i_ix, Y.i_tup, Y.i_lst, Y.i_k, Y.i_bin, Y.i_call, Y.i_sl, Y.i_rev, Y.i_lc, Y.i_rng, Y.i_rng2, Y.i_zip, Y.i_enum, Y.q_t, Y.q_l, Y.q_z, Y.q_zt, Y.q_e, Y.sz, Y.a_int, Y.a_tup, Y.a_lst, Y.su_int, Y.mo_int, Y.mu_intR, Y.mu_intL, Y.fd_intS, Y.po_int, Y.c_lt, Y.c_le, Y.c_gt, Y.c_ge, Y.cc_le, Y.cc_lt, Y.c_isn_n, Y.c_isn_b, Y.c_isn_i, Y.c_isn_s, Y.c_isn_t, Y.c_isn_l, Y.c_nisn_n, Y.c_nisn_b, Y.c_nisn_i, Y.c_nisn_s, Y.c_nisn_t, Y.c_nisn_l, Y.c_eq, Y.c_ne, Y.n_tup, Y.n_lst, Y.n_int, Y.n_abs, Y.n_tt, Y.n_tl, Y.n_lt, Y.n_ll, Y.n_gcd, Y.ix_t0, Y.ix_t1, Y.ix_t2, Y.ix_l0, Y.ix_l1, Y.l_tup, Y.l_lst, Y.r_tup, Y.r_lst, List.map_cons, List.map_nil, List.cons_append, List.nil_append, List.replicate, List.getElem?_cons_zero, List.getElem?_cons_succ, List.length_cons, List.length_nil, List.set_cons_zero, List.set_cons_succ, if_true, Bool.false_eq_true, if_false, Bool.not_true, Bool.not_false, Nat.reduceLeDiff, Nat.reduceAdd, kn0, kn1, kn2, kn3, kn4, kn5, kn6, kn7, kn8, kn9, kn10, kn11, kn12, kn13, kn14, kn15, kn16, kn17, kn18, kn19, kn20, kn21, kn22, kn23, kn24, kn25, kn26, kn27, kn28, kn29, kn30, kn31, kn32, kn33, kn34, kn35, kn37, kn38, kn39, e0, exx_for, e]
    exact end_rt gC hu
/-! draws -/
theorem s_some (xs : List D) (h0 : 0 < xs.length) (h1 : xs.length ≤ 1000) (hu : ∀ x ∈ xs, D.under 1 x = true) : ∃ x c', (cl (n + 2)).ca 27 [.ref 0, .lst xs] (Cup c []) = .ok x (Cup c' []) ∧ x ∈ xs := by
  obtain ⟨r, c1, e1, hr⟩ := s_roll (n := n) goodR_nil c (xs.length : Int) (by omega) (by omega)
  obtain ⟨x, hx⟩ : ∃ x, xs[r]? = some x := ⟨_, List.getElem?_eq_getElem (by omega)⟩
  have hm : x ∈ xs := List.mem_of_getElem? hx
  refine ⟨x, c1, ?_, hm⟩
  have e2 : index (.lst xs) (.int r) (Cup c1 []) = .ok x (Cup c1 []) := by rw [Y.ix_l, hx]
  rw [ca_x (f := b27) rfl (by decide +kernel) (by decide +kernel) rfl rfl]
  simp only [b27, evx_v, evx_k, evx_g, evx_bin, evx_cmp, evx_chn, evx_neg, evx_nt, evx_and, evx_or, evx_ite, evx_tup, evx_lst, evx_nlst, evx_ix, evx_sl, evx_rev, evx_app, evx_join, evx_call, evx_callv, evx_lam, evx_bi, evx_isi, exx_asg, exx_setix, exx_ex, exx_ite, exx_ret, exx_ret0, exx_brk, exx_cnt, exx_pas, exx_rai, Y.b_ok, Y.b_ex, Y.o_ok, Y.o_ex, Y.e_nil, Y.e_cons, Y.eo_none, Y.eo_some, Y.s_nil, Y.s_cons, Y.t_bl, Y.t_int, Y.t_tup, Y.t_lst, Y.t_non, Y.x_and, Y.x_or, Y.x_nt, Y.x_v, Y.x_k, Y.x_cmp, Y.x_chn, Y.x_call, Y.x_callv, Y.x_bi, Y.x_isi, Y.x_exi, Y.x_ix, Y.x_bin, Y.p_n, Y.p_t, Y.p_tl, Y.ps_cons, Y.ps_nil, Y.i_v, Y.i_ix, Y.i_tup, Y.i_lst, Y.i_k, Y.i_bin, Y.i_call, Y.i_sl, Y.i_rev, Y.i_lc, Y.i_rng, Y.i_rng2, Y.i_zip, Y.i_enum, Y.q_t, Y.q_l, Y.q_z, Y.q_zt, Y.q_e, Y.sz, Y.a_int, Y.a_tup, Y.a_lst, Y.su_int, Y.mo_int, Y.mu_intR, Y.mu_intL, Y.fd_intS, Y.po_int, Y.c_lt, Y.c_le, Y.c_gt, Y.c_ge, Y.cc_le, Y.cc_lt, Y.c_isn_n, Y.c_isn_b, Y.c_isn_i, Y.c_isn_s, Y.c_isn_t, Y.c_isn_l, Y.c_nisn_n, Y.c_nisn_b, Y.c_nisn_i, Y.c_nisn_s, Y.c_nisn_t, Y.c_nisn_l, Y.c_eq, Y.c_ne, Y.n_tup, Y.n_lst, Y.n_int, Y.n_abs, Y.n_tt, Y.n_tl, Y.n_lt, Y.n_ll, Y.n_gcd, Y.ix_t0, Y.ix_t1, Y.ix_t2, Y.ix_l0, Y.ix_l1, Y.l_tup, Y.l_lst, Y.r_tup, Y.r_lst, List.map_cons, List.map_nil, List.cons_append, List.nil_append, List.replicate, List.getElem?_cons_zero, List.getElem?_cons_succ, List.length_cons, List.length_nil, List.set_cons_zero, List.set_cons_succ, if_true, Bool.false_eq_true, if_false, Bool.not_true, Bool.not_false, Nat.reduceLeDiff, Nat.reduceAdd, kn0, kn1, kn2, kn3, kn4, kn5, kn6, kn7, kn8, kn9, kn10, kn11, kn12, kn13, kn14, kn15, kn16, kn17, kn18, kn19, kn20, kn21, kn22, kn23, kn24, kn25, kn26, kn27, kn28, kn29, kn30, kn31, kn32, kn33, kn34, kn35, kn37, kn38, kn39, e1, e2]
  exact end_rt (S := Cup c1 []) gC (hu x hm)
theorem s_order : ∃ o c', (cl (n + 3)).ca 31 [.ref 0] (Cup c []) = .ok (en o) (Cup c' []) := by
  obtain ⟨r, c1, e1, hr⟩ := s_roll (n := n + 1) goodR_nil c 10 (by decide) (by decide)
  by_cases h : (r : Int) < 6
  · obtain ⟨x, c2, e2, hx⟩ := s_some (n := n) (c := c1) [.str ("read" : PySem.Str), .str ("least" : PySem.Str), .str ("row" : PySem.Str), .str ("log" : PySem.Str), .str ("axis" : PySem.Str), .str ("check" : PySem.Str)] (by simp) (by simp) (fun x hx => by
      simp only [List.mem_cons, List.not_mem_nil, or_false] at hx
      rcases hx with rfl | rfl | rfl | rfl | rfl | rfl <;> rfl)
    obtain ⟨o, ho⟩ : ∃ o : Od, D.tup [x] = en o := by
      simp only [List.mem_cons, List.not_mem_nil, or_false] at hx
      rcases hx with rfl | rfl | rfl | rfl | rfl | rfl
      · exact ⟨.read, rfl⟩
      · exact ⟨.least, rfl⟩
      · exact ⟨.row, rfl⟩
      · exact ⟨.log, rfl⟩
      · exact ⟨.axis, rfl⟩
      · exact ⟨.check, rfl⟩
    refine ⟨o, c2, ?_⟩
    rw [ca_x (f := b31) rfl (by decide +kernel) (by decide +kernel) rfl rfl]
    simp only [b31, evx_v, evx_k, evx_g, evx_bin, evx_cmp, evx_chn, evx_neg, evx_nt, evx_and, evx_or, evx_ite, evx_tup, evx_lst, evx_nlst, evx_ix, evx_sl, evx_rev, evx_app, evx_join, evx_call, evx_callv, evx_lam, evx_bi, evx_isi, exx_asg, exx_setix, exx_ex, exx_ite, exx_ret, exx_ret0, exx_brk, exx_cnt, exx_pas, exx_rai, Y.b_ok, Y.b_ex, Y.o_ok, Y.o_ex, Y.e_nil, Y.e_cons, Y.eo_none, Y.eo_some, Y.s_nil, Y.s_cons, Y.t_bl, Y.t_int, Y.t_tup, Y.t_lst, Y.t_non, Y.x_and, Y.x_or, Y.x_nt, Y.x_v, Y.x_k, Y.x_cmp, Y.x_chn, Y.x_call, Y.x_callv, Y.x_bi, Y.x_isi, Y.x_exi, Y.x_ix, Y.x_bin, Y.p_n, Y.p_t, Y.p_tl, Y.ps_cons, Y.ps_nil, Y.i_v, Y.i_ix, Y.i_tup, Y.i_lst, Y.i_k, Y.i_bin, Y.i_call, Y.i_sl, Y.i_rev, Y.i_lc, Y.i_rng, Y.i_rng2, Y.i_zip, Y.i_enum, Y.q_t, Y.q_l, Y.q_z, Y.q_zt, Y.q_e, Y.sz, Y.a_int, Y.a_tup, Y.a_lst, Y.su_int, Y.mo_int, Y.mu_intR, Y.mu_intL, Y.fd_intS, Y.po_int, Y.c_lt, Y.c_le, Y.c_gt, Y.c_ge, Y.cc_le, Y.cc_lt, Y.c_isn_n, Y.c_isn_b, Y.c_isn_i, Y.c_isn_s, Y.c_isn_t, Y.c_isn_l, Y.c_nisn_n, Y.c_nisn_b, Y.c_nisn_i, Y.c_nisn_s, Y.c_nisn_t, Y.c_nisn_l, Y.c_eq, Y.c_ne, Y.n_tup, Y.n_lst, Y.n_int, Y.n_abs, Y.n_tt, Y.n_tl, Y.n_lt, Y.n_ll, Y.n_gcd, Y.ix_t0, Y.ix_t1, Y.ix_t2, Y.ix_l0, Y.ix_l1, Y.l_tup, Y.l_lst, Y.r_tup, Y.r_lst, List.map_cons, List.map_nil, List.cons_append, List.nil_append, List.replicate, List.getElem?_cons_zero, List.getElem?_cons_succ, List.length_cons, List.length_nil, List.set_cons_zero, List.set_cons_succ, if_true, Bool.false_eq_true, if_false, Bool.not_true, Bool.not_false, Nat.reduceLeDiff, Nat.reduceAdd, kn0, kn1, kn2, kn3, kn4, kn5, kn6, kn7, kn8, kn9, kn10, kn11, kn12, kn13, kn14, kn15, kn16, kn17, kn18, kn19, kn20, kn21, kn22, kn23, kn24, kn25, kn26, kn27, kn28, kn29, kn30, kn31, kn32, kn33, kn34, kn35, kn37, kn38, kn39, e1, h, decide_true, e2, ho]
    exact end_rt (S := Cup c2 []) gC (by cases o <;> rfl)
  · obtain ⟨k, c2, e2, hk⟩ := s_roll (n := n + 1) goodR_nil c1 4 (by decide) (by decide)
    obtain ⟨o, ho⟩ : ∃ o : Od, D.tup [.str ("word" : PySem.Str), .int k] = en o := by
      have h4 : k = 0 ∨ k = 1 ∨ k = 2 ∨ k = 3 := by omega
      rcases h4 with rfl | rfl | rfl | rfl
      · exact ⟨.w0, rfl⟩
      · exact ⟨.w1, rfl⟩
      · exact ⟨.w2, rfl⟩
      · exact ⟨.w3, rfl⟩
    refine ⟨o, c2, ?_⟩
    rw [ca_x (f := b31) rfl (by decide +kernel) (by decide +kernel) rfl rfl]
    simp only [b31, evx_v, evx_k, evx_g, evx_bin, evx_cmp, evx_chn, evx_neg, evx_nt, evx_and, evx_or, evx_ite, evx_tup, evx_lst, evx_nlst, evx_ix, evx_sl, evx_rev, evx_app, evx_join, evx_call, evx_callv, evx_lam, evx_bi, evx_isi, exx_asg, exx_setix, exx_ex, exx_ite, exx_ret, exx_ret0, exx_brk, exx_cnt, exx_pas, exx_rai, Y.b_ok, Y.b_ex, Y.o_ok, Y.o_ex, Y.e_nil, Y.e_cons, Y.eo_none, Y.eo_some, Y.s_nil, Y.s_cons, Y.t_bl, Y.t_int, Y.t_tup, Y.t_lst, Y.t_non, Y.x_and, Y.x_or, Y.x_nt, Y.x_v, Y.x_k, Y.x_cmp, Y.x_chn, Y.x_call, Y.x_callv, Y.x_bi, Y.x_isi, Y.x_exi, Y.x_ix, Y.x_bin, Y.p_n, Y.p_t, Y.p_tl, Y.ps_cons, Y.ps_nil, Y.i_v, Y.i_ix, Y.i_tup, Y.i_lst, Y.i_k, Y.i_bin, Y.i_call, Y.i_sl, Y.i_rev, Y.i_lc, Y.i_rng, Y.i_rng2, Y.i_zip, Y.i_enum, Y.q_t, Y.q_l, Y.q_z, Y.q_zt, Y.q_e, Y.sz, Y.a_int, Y.a_tup, Y.a_lst, Y.su_int, Y.mo_int, Y.mu_intR, Y.mu_intL, Y.fd_intS, Y.po_int, Y.c_lt, Y.c_le, Y.c_gt, Y.c_ge, Y.cc_le, Y.cc_lt, Y.c_isn_n, Y.c_isn_b, Y.c_isn_i, Y.c_isn_s, Y.c_isn_t, Y.c_isn_l, Y.c_nisn_n, Y.c_nisn_b, Y.c_nisn_i, Y.c_nisn_s, Y.c_nisn_t, Y.c_nisn_l, Y.c_eq, Y.c_ne, Y.n_tup, Y.n_lst, Y.n_int, Y.n_abs, Y.n_tt, Y.n_tl, Y.n_lt, Y.n_ll, Y.n_gcd, Y.ix_t0, Y.ix_t1, Y.ix_t2, Y.ix_l0, Y.ix_l1, Y.l_tup, Y.l_lst, Y.r_tup, Y.r_lst, List.map_cons, List.map_nil, List.cons_append, List.nil_append, List.replicate, List.getElem?_cons_zero, List.getElem?_cons_succ, List.length_cons, List.length_nil, List.set_cons_zero, List.set_cons_succ, if_true, Bool.false_eq_true, if_false, Bool.not_true, Bool.not_false, Nat.reduceLeDiff, Nat.reduceAdd, kn0, kn1, kn2, kn3, kn4, kn5, kn6, kn7, kn8, kn9, kn10, kn11, kn12, kn13, kn14, kn15, kn16, kn17, kn18, kn19, kn20, kn21, kn22, kn23, kn24, kn25, kn26, kn27, kn28, kn29, kn30, kn31, kn32, kn33, kn34, kn35, kn37, kn38, kn39, e1, h, decide_false, e2, ho]
    exact end_rt (S := Cup c2 []) gC (by cases o <;> rfl)
theorem s_setting : ∃ w c', w < 4 ∧ (cl (n + 2)).ca 30 [.ref 0] (Cup c []) = .ok (stD w) (Cup c' []) := by
  obtain ⟨r, c1, e1, hr⟩ := s_roll (n := n) goodR_nil c 4 (by decide) (by decide)
  refine ⟨r, c1, by omega, ?_⟩
  have e2 := lc_map (c := cl (n + 1)) (G := LL.G) (δ := [some (.ref 0), none, none]) (S := Cup c []) (S1 := Cup c1 []) (it := .rng none (.call 26 [(.v 0), (.k (.int 4))])) (tg := .n 2) (own := [1, 2]) (elt := .bin .mul (.tup [(.k (.int 0))]) (.v 2)) (gs := []) (enc := fun (i : Nat) => D.int (i : Int)) (ys := List.range r) (fun k => .tup (List.replicate k (.int 0))) (by simp only [evx_v, evx_k, evx_g, evx_bin, evx_cmp, evx_chn, evx_neg, evx_nt, evx_and, evx_or, evx_ite, evx_tup, evx_lst, evx_nlst, evx_ix, evx_sl, evx_rev, evx_app, evx_join, evx_call, evx_callv, evx_lam, evx_bi, evx_isi, exx_asg, exx_setix, exx_ex, exx_ite, exx_ret, exx_ret0, exx_brk, exx_cnt, exx_pas, exx_rai, Y.b_ok, Y.b_ex, Y.o_ok, Y.o_ex, Y.e_nil, Y.e_cons, Y.eo_none, Y.eo_some, Y.s_nil, Y.s_cons, Y.t_bl, Y.t_int, Y.t_tup, Y.t_lst, Y.t_non, Y.x_and, Y.x_or, Y.x_nt, Y.x_v, Y.x_k, Y.x_cmp, Y.x_chn, Y.x_call, Y.x_callv, Y.x_bi, Y.x_isi, Y.x_exi, Y.x_ix, Y.x_bin, Y.p_n, Y.p_t, Y.p_tl, Y.ps_cons, Y.ps_nil, Y.i_v, Y.i_ix, Y.i_tup, Y.i_lst, Y.i_k, Y.i_bin, Y.i_call, Y.i_sl, Y.i_rev, Y.i_lc, Y.i_rng, Y.i_rng2, Y.i_zip, Y.i_enum, Y.q_t, Y.q_l, Y.q_z, Y.q_zt, Y.q_e, Y.sz, Y.a_int, Y.a_tup, Y.a_lst, Y.su_int, Y.mo_int, Y.mu_intR, Y.mu_intL, Y.fd_intS, Y.po_int, Y.c_lt, Y.c_le, Y.c_gt, Y.c_ge, Y.cc_le, Y.cc_lt, Y.c_isn_n, Y.c_isn_b, Y.c_isn_i, Y.c_isn_s, Y.c_isn_t, Y.c_isn_l, Y.c_nisn_n, Y.c_nisn_b, Y.c_nisn_i, Y.c_nisn_s, Y.c_nisn_t, Y.c_nisn_l, Y.c_eq, Y.c_ne, Y.n_tup, Y.n_lst, Y.n_int, Y.n_abs, Y.n_tt, Y.n_tl, Y.n_lt, Y.n_ll, Y.n_gcd, Y.ix_t0, Y.ix_t1, Y.ix_t2, Y.ix_l0, Y.ix_l1, Y.l_tup, Y.l_lst, Y.r_tup, Y.r_lst, List.map_cons, List.map_nil, List.cons_append, List.nil_append, List.replicate, List.getElem?_cons_zero, List.getElem?_cons_succ, List.length_cons, List.length_nil, List.set_cons_zero, List.set_cons_succ, if_true, Bool.false_eq_true, if_false, Bool.not_true, Bool.not_false, Nat.reduceLeDiff, Nat.reduceAdd, kn0, kn1, kn2, kn3, kn4, kn5, kn6, kn7, kn8, kn9, kn10, kn11, kn12, kn13, kn14, kn15, kn16, kn17, kn18, kn19, kn20, kn21, kn22, kn23, kn24, kn25, kn26, kn27, kn28, kn29, kn30, kn31, kn32, kn33, kn34, kn35, kn37, kn38, kn39, e1, rng_map _ (show r ≤ 1000000 by omega)]) rfl (by simp; omega) (fun k hk => ⟨_, Y.p_n _ _ _ _, by
    have hk' := List.mem_range.mp hk
    have z := Y.mu_tup (Cup c1 []) (xs := [.int 0]) (k := (k : Int)) rfl (by omega) (by omega) (by simp)
    have z2 : (List.replicate (k : Int).toNat [D.int 0]).flatten = List.replicate k (.int 0) := by
      rw [Int.toNat_natCast]
      clear z hk hk'
      induction k with
      | zero => rfl
      | succ k ih => rw [List.replicate_succ, List.flatten_cons, ih, List.replicate_succ]; rfl
    rw [z2] at z
    simp only [wipeD, evx_v, evx_k, evx_g, evx_bin, evx_cmp, evx_chn, evx_neg, evx_nt, evx_and, evx_or, evx_ite, evx_tup, evx_lst, evx_nlst, evx_ix, evx_sl, evx_rev, evx_app, evx_join, evx_call, evx_callv, evx_lam, evx_bi, evx_isi, exx_asg, exx_setix, exx_ex, exx_ite, exx_ret, exx_ret0, exx_brk, exx_cnt, exx_pas, exx_rai, Y.b_ok, Y.b_ex, Y.o_ok, Y.o_ex, Y.e_nil, Y.e_cons, Y.eo_none, Y.eo_some, Y.s_nil, Y.s_cons, Y.t_bl, Y.t_int, Y.t_tup, Y.t_lst, Y.t_non, Y.x_and, Y.x_or, Y.x_nt, Y.x_v, Y.x_k, Y.x_cmp, Y.x_chn, Y.x_call, Y.x_callv, Y.x_bi, Y.x_isi, Y.x_exi, Y.x_ix, Y.x_bin, Y.p_n, Y.p_t, Y.p_tl, Y.ps_cons, Y.ps_nil, Y.i_v, Y.i_ix, Y.i_tup, Y.i_lst, Y.i_k, Y.i_bin, Y.i_call, Y.i_sl, Y.i_rev, Y.i_lc, Y.i_rng, Y.i_rng2, Y.i_zip, Y.i_enum, Y.q_t, Y.q_l, Y.q_z, Y.q_zt, Y.q_e, Y.sz, Y.a_int, Y.a_tup, Y.a_lst, Y.su_int, Y.mo_int, Y.mu_intR, Y.mu_intL, Y.fd_intS, Y.po_int, Y.c_lt, Y.c_le, Y.c_gt, Y.c_ge, Y.cc_le, Y.cc_lt, Y.c_isn_n, Y.c_isn_b, Y.c_isn_i, Y.c_isn_s, Y.c_isn_t, Y.c_isn_l, Y.c_nisn_n, Y.c_nisn_b, Y.c_nisn_i, Y.c_nisn_s, Y.c_nisn_t, Y.c_nisn_l, Y.c_eq, Y.c_ne, Y.n_tup, Y.n_lst, Y.n_int, Y.n_abs, Y.n_tt, Y.n_tl, Y.n_lt, Y.n_ll, Y.n_gcd, Y.ix_t0, Y.ix_t1, Y.ix_t2, Y.ix_l0, Y.ix_l1, Y.l_tup, Y.l_lst, Y.r_tup, Y.r_lst, List.map_cons, List.map_nil, List.cons_append, List.nil_append, List.replicate, List.getElem?_cons_zero, List.getElem?_cons_succ, List.length_cons, List.length_nil, List.set_cons_zero, List.set_cons_succ, if_true, Bool.false_eq_true, if_false, Bool.not_true, Bool.not_false, Nat.reduceLeDiff, Nat.reduceAdd, kn0, kn1, kn2, kn3, kn4, kn5, kn6, kn7, kn8, kn9, kn10, kn11, kn12, kn13, kn14, kn15, kn16, kn17, kn18, kn19, kn20, kn21, kn22, kn23, kn24, kn25, kn26, kn27, kn28, kn29, kn30, kn31, kn32, kn33, kn34, kn35, kn37, kn38, kn39, z]⟩)
  rw [ca_x (f := b30) rfl (by decide +kernel) (by decide +kernel) rfl rfl]
  simp only [b30, evx_v, evx_k, evx_g, evx_bin, evx_cmp, evx_chn, evx_neg, evx_nt, evx_and, evx_or, evx_ite, evx_tup, evx_lst, evx_nlst, evx_ix, evx_sl, evx_rev, evx_app, evx_join, evx_call, evx_callv, evx_lam, evx_bi, evx_isi, exx_asg, exx_setix, exx_ex, exx_ite, exx_ret, exx_ret0, exx_brk, exx_cnt, exx_pas, exx_rai, Y.b_ok, Y.b_ex, Y.o_ok, Y.o_ex, Y.e_nil, Y.e_cons, Y.eo_none, Y.eo_some, Y.s_nil, Y.s_cons, Y.t_bl, Y.t_int, Y.t_tup, Y.t_lst, Y.t_non, Y.x_and, Y.x_or, Y.x_nt, Y.x_v, Y.x_k, Y.x_cmp, Y.x_chn, Y.x_call, Y.x_callv, Y.x_bi, Y.x_isi, Y.x_exi, Y.x_ix, Y.x_bin, Y.p_n, Y.p_t, Y.p_tl, Y.ps_cons, Y.ps_nil, Y.i_v, Y.i_ix, Y.i_tup, Y.i_lst, Y.i_k, Y.i_bin, Y.i_call, Y.i_sl, Y.i_rev, Y.i_lc, Y.i_rng, Y.i_rng2, Y.i_zip, Y.i_enum, Y.q_t, Y.q_l, Y.q_z, Y.q_zt, Y.q_e, Y.sz, Y.a_int, Y.a_tup, Y.a_lst, Y.su_int, Y.mo_int, Y.mu_intR, Y.mu_intL, Y.fd_intS, Y.po_int, Y.c_lt, Y.c_le, Y.c_gt, Y.c_ge, Y.cc_le, Y.cc_lt, Y.c_isn_n, Y.c_isn_b, Y.c_isn_i, Y.c_isn_s, Y.c_isn_t, Y.c_isn_l, Y.c_nisn_n, Y.c_nisn_b, Y.c_nisn_i, Y.c_nisn_s, Y.c_nisn_t, Y.c_nisn_l, Y.c_eq, Y.c_ne, Y.n_tup, Y.n_lst, Y.n_int, Y.n_abs, Y.n_tt, Y.n_tl, Y.n_lt, Y.n_ll, Y.n_gcd, Y.ix_t0, Y.ix_t1, Y.ix_t2, Y.ix_l0, Y.ix_l1, Y.l_tup, Y.l_lst, Y.r_tup, Y.r_lst, List.map_cons, List.map_nil, List.cons_append, List.nil_append, List.replicate, List.getElem?_cons_zero, List.getElem?_cons_succ, List.length_cons, List.length_nil, List.set_cons_zero, List.set_cons_succ, if_true, Bool.false_eq_true, if_false, Bool.not_true, Bool.not_false, Nat.reduceLeDiff, Nat.reduceAdd, kn0, kn1, kn2, kn3, kn4, kn5, kn6, kn7, kn8, kn9, kn10, kn11, kn12, kn13, kn14, kn15, kn16, kn17, kn18, kn19, kn20, kn21, kn22, kn23, kn24, kn25, kn26, kn27, kn28, kn29, kn30, kn31, kn32, kn33, kn34, kn35, kn37, kn38, kn39, e2]
  refine end_rt (S := Cup c1 []) (d := stD r) gC ?_
  have h4 : r = 0 ∨ r = 1 ∨ r = 2 ∨ r = 3 := by omega
  rcases h4 with rfl | rfl | rfl | rfl <;> rfl
end
end K47
end
section
set_option Elab.async false
set_option linter.all false
set_option maxRecDepth 100000
set_option autoImplicit false
namespace K47
open IT
/-! random codes -/
def e37 (w : Nat) (t3 t4 t5 t6 t7 : Option D) : Env := [some (.ref 0), some (stD w), some (.tup ((full w).map en)), t3, t4, t5, t6, t7, none, none, none]
def cd (os : List Od) : D := .tup (os.map en)
def wl : Nat → Od
  | 0 => .w0
  | 1 => .w1
  | 2 => .w2
  | _ => .w3
def stA : List IT.S := [
  .asg (.n 2) (.call 32 [(.v 1)]),
  .ite (.nt (.call 29 [(.lst [(.call 23 [(.v 1)]), (.call 22 [(.v 1), (.v 2)]), (.call 21 [(.v 2)])]), (.lst [(.v 2), (.k .non), (.k (.bl true))])])) [
    .ret (some (.k (.bl false)))] []]
def st2 : IT.S :=
  .for_ (.n 5) (.rng none (.bin .add (.bi .len [(.v 2)]) (.k (.int 1)))) [
    .asg (.n 7) (.ite (.cmp .lt (.v 5) (.bi .len [(.v 2)])) (.ix (.v 2) (.v 5)) (.tup [(.k (.str ("word" : PySem.Str))), (.bi .len [(.ix (.v 1) (.k (.int 2)))])])),
    .ite (.cmp .is (.call 33 [(.v 1), (.v 7)]) (.k .non)) [
      .ite (.cmp .ne (.lam 36 (.call 24 [(.v 1), (.v 7)])) (.k (.str ("found error" : PySem.Str)))) [
        .ret (some (.k (.bl false)))] []] [
      .ite (.nt (.call 29 [(.lst [(.call 24 [(.v 1), (.v 7)]), (.call 22 [(.v 1), (.call 35 [(.v 1), (.v 7)])])]), (.lst [(.call 35 [(.v 1), (.v 7)]), (.k .non)])])) [
        .ret (some (.k (.bl false)))] []]]
def sC1 : IT.S := .asg (.n 4) (.bi .tuple [(.lc false (.call 31 [(.v 0)]) (.n 9) (.rng none (.call 26 [(.v 0), (.k (.int 6))])) none [8, 9])])
def sC2 : IT.S := .asg (.n 5) (.call 26 [(.v 0), (.bi .len [(.v 2)])])
def sC3 : IT.S := .asg (.n 6) (.lst [(.v 4), (.bin .add (.sl (.v 2) none (some (.v 5))) (.sl (.v 2) (some (.bin .add (.v 5) (.k (.int 1)))) none)), (.bin .add (.bin .add (.sl (.v 2) none (some (.v 5))) (.tup [(.ix (.v 2) (.v 5))])) (.sl (.v 2) (some (.v 5)) none)), (.bin .add (.sl (.v 2) (some (.v 5)) none) (.sl (.v 2) none (some (.v 5)))), (.bin .add (.v 2) (.tup [(.ix (.v 2) (.v 5))]))])
def sC4 : IT.S := .ite (.cmp .ne (.lc false (.v 10) (.n 10) (.v 6) (some (.nt (.call 29 [(.lst [(.call 22 [(.v 1), (.v 10)]), (.call 21 [(.v 10)])]), (.lst [(.call 34 [(.v 1), (.v 10)]), (.k (.bl true))])]))) [8, 10]) (.lst [])) [
      .ret (some (.k (.bl false)))] []
section
variable {n : Nat} {c : Cp}
theorem r_a (w : Nat) (hw : w < 4) : exs (exx (cl (n + 9)) LL.G {}) stA [some (.ref 0), some (stD w), none, none, none, none, none, none, none, none, none] (Cup c []) = .nx (e37 w none none none none none) (Cup c []) := by
  match w, hw with
  | 0, _ => kernel_rfl
  | 1, _ => kernel_rfl
  | 2, _ => kernel_rfl
  | 3, _ => kernel_rfl
theorem r_2a (t3 t4 t5 t6 : Option D) : exx (cl (n + 9)) LL.G {} st2 (e37 0 t3 t4 t5 t6 none) (Cup c []) = .nx (e37 0 t3 t4 (some (.int 6)) t6 (some (en .w0))) (Cup c []) := by kernel_rfl
theorem r_2b (t3 t4 t5 t6 : Option D) : exx (cl (n + 9)) LL.G {} st2 (e37 1 t3 t4 t5 t6 none) (Cup c []) = .nx (e37 1 t3 t4 (some (.int 7)) t6 (some (en .w1))) (Cup c []) := by kernel_rfl
theorem r_2c (t3 t4 t5 t6 : Option D) : exx (cl (n + 9)) LL.G {} st2 (e37 2 t3 t4 t5 t6 none) (Cup c []) = .nx (e37 2 t3 t4 (some (.int 8)) t6 (some (en .w2))) (Cup c []) := by kernel_rfl
theorem r_2d (t3 t4 t5 t6 : Option D) : exx (cl (n + 9)) LL.G {} st2 (e37 3 t3 t4 t5 t6 none) (Cup c []) = .nx (e37 3 t3 t4 (some (.int 9)) t6 (some (en .w3))) (Cup c []) := by kernel_rfl
theorem r_2 (w : Nat) (hw : w < 4) (t3 t4 t5 t6 : Option D) : ∃ δ', exx (cl (n + 9)) LL.G {} st2 (e37 w t3 t4 t5 t6 none) (Cup c []) = .nx δ' (Cup c []) := by
  match w, hw with
  | 0, _ => exact ⟨_, r_2a t3 t4 t5 t6⟩
  | 1, _ => exact ⟨_, r_2b t3 t4 t5 t6⟩
  | 2, _ => exact ⟨_, r_2c t3 t4 t5 t6⟩
  | 3, _ => exact ⟨_, r_2d t3 t4 t5 t6⟩
theorem full_len (w : Nat) (hw : w < 4) : 6 ≤ (full w).length ∧ (full w).length ≤ 9 := by
  match w, hw with
  | 0, _ => decide
  | 1, _ => decide
  | 2, _ => decide
  | 3, _ => decide
theorem cut_dr (os : List Od) (k : Nat) : cutD (os.map en) (some (k : Int)) none = (os.drop k).map en := by rw [Y.cut_drop, List.map_drop]
theorem r_1 (w : Nat) (t3 t4 t5 t6 : Option D) : ∃ os c', exx (cl (n + 9)) LL.G {} sC1 (e37 w t3 t4 t5 t6 none) (Cup c []) = .nx (e37 w t3 (some (cd os)) t5 t6 none) (Cup c' []) ∧ os.length ≤ 6 := by
  obtain ⟨r, c1, e1, hr⟩ := s_roll (n := n + 8) goodR_nil c 6 (by decide) (by decide)
  obtain ⟨ds, c2, e2, hl, hq⟩ := lc_cup (c := cl (n + 9)) (G := LL.G) (m := false) (elt := .call 31 [(.v 0)]) (tg := .n 9) (it := .rng none (.call 26 [(.v 0), (.k (.int 6))])) (own := [8, 9]) (δ := e37 w t3 t4 t5 t6 none) (R := []) (S := Cup c []) (xs := (List.range r).map fun (i : Nat) => D.int (i : Int)) (k := c1) (Q := fun d => ∃ o, d = en o ∧ True) (by simp only [e37, evx_v, evx_k, evx_g, evx_bin, evx_cmp, evx_chn, evx_neg, evx_nt, evx_and, evx_or, evx_ite, evx_tup, evx_lst, evx_nlst, evx_ix, evx_sl, evx_rev, evx_app, evx_join, evx_call, evx_callv, evx_lam, evx_bi, evx_isi, exx_asg, exx_setix, exx_ex, exx_ite, exx_ret, exx_ret0, exx_brk, exx_cnt, exx_pas, exx_rai, Y.b_ok, Y.b_ex, Y.o_ok, Y.o_ex, Y.e_nil, Y.e_cons, Y.eo_none, Y.eo_some, Y.s_nil, Y.s_cons, Y.t_bl, Y.t_int, Y.t_tup, Y.t_lst, Y.t_non, Y.x_and, Y.x_or, Y.x_nt, Y.x_v, Y.x_k, Y.x_cmp, Y.x_chn, Y.x_call, Y.x_callv, Y.x_bi, Y.x_isi, Y.x_exi, Y.x_ix, Y.x_bin, Y.p_n, Y.p_t, Y.p_tl, Y.ps_cons, Y.ps_nil, Y.i_v, Y.i_ix, Y.i_tup, Y.i_lst, Y.i_k, Y.i_bin, Y.i_call, Y.i_sl, Y.i_rev, Y.i_lc, Y.i_rng, Y.i_rng2, Y.i_zip, Y.i_enum, Y.q_t, Y.q_l, Y.q_z, Y.q_zt, Y.q_e, Y.sz, Y.a_int, Y.a_tup, Y.a_lst, Y.su_int, Y.mo_int, Y.mu_intR, Y.mu_intL, Y.fd_intS, Y.po_int, Y.c_lt, Y.c_le, Y.c_gt, Y.c_ge, Y.cc_le, Y.cc_lt, Y.c_isn_n, Y.c_isn_b, Y.c_isn_i, Y.c_isn_s, Y.c_isn_t, Y.c_isn_l, Y.c_nisn_n, Y.c_nisn_b, Y.c_nisn_i, Y.c_nisn_s, Y.c_nisn_t, Y.c_nisn_l, Y.c_eq, Y.c_ne, Y.n_tup, Y.n_lst, Y.n_int, Y.n_abs, Y.n_tt, Y.n_tl, Y.n_lt, Y.n_ll, Y.n_gcd, Y.ix_t0, Y.ix_t1, Y.ix_t2, Y.ix_l0, Y.ix_l1, Y.l_tup, Y.l_lst, Y.r_tup, Y.r_lst, List.map_cons, List.map_nil, List.cons_append, List.nil_append, List.replicate, List.getElem?_cons_zero, List.getElem?_cons_succ, List.length_cons, List.length_nil, List.set_cons_zero, List.set_cons_succ, if_true, Bool.false_eq_true, if_false, Bool.not_true, Bool.not_false, Nat.reduceLeDiff, Nat.reduceAdd, kn0, kn1, kn2, kn3, kn4, kn5, kn6, kn7, kn8, kn9, kn10, kn11, kn12, kn13, kn14, kn15, kn16, kn17, kn18, kn19, kn20, kn21, kn22, kn23, kn24, kn25, kn26, kn27, kn28, kn29, kn30, kn31, kn32, kn33, kn34, kn35, kn37, kn38, kn39, e1, rng_map _ (show r ≤ 1000000 by omega)]) (by simp; omega) (fun x _ k => by
    obtain ⟨o, k', e⟩ := s_order (n := n + 6) (c := k)
    refine ⟨_, en o, k', fun S => Y.p_n _ _ _ _, ?_, o, rfl, trivial⟩
    simp only [wipeD, e37, evx_v, evx_k, evx_g, evx_bin, evx_cmp, evx_chn, evx_neg, evx_nt, evx_and, evx_or, evx_ite, evx_tup, evx_lst, evx_nlst, evx_ix, evx_sl, evx_rev, evx_app, evx_join, evx_call, evx_callv, evx_lam, evx_bi, evx_isi, exx_asg, exx_setix, exx_ex, exx_ite, exx_ret, exx_ret0, exx_brk, exx_cnt, exx_pas, exx_rai, Y.b_ok, Y.b_ex, Y.o_ok, Y.o_ex, Y.e_nil, Y.e_cons, Y.eo_none, Y.eo_some, Y.s_nil, Y.s_cons, Y.t_bl, Y.t_int, Y.t_tup, Y.t_lst, Y.t_non, Y.x_and, Y.x_or, Y.x_nt, Y.x_v, Y.x_k, Y.x_cmp, Y.x_chn, Y.x_call, Y.x_callv, Y.x_bi, Y.x_isi, Y.x_exi, Y.x_ix, Y.x_bin, Y.p_n, Y.p_t, Y.p_tl, Y.ps_cons, Y.ps_nil, Y.i_v, Y.i_ix, Y.i_tup, Y.i_lst, Y.i_k, Y.i_bin, Y.i_call, Y.i_sl, Y.i_rev, Y.i_lc, Y.i_rng, Y.i_rng2, Y.i_zip, Y.i_enum, Y.q_t, Y.q_l, Y.q_z, Y.q_zt, Y.q_e, Y.sz, Y.a_int, Y.a_tup, Y.a_lst, Y.su_int, Y.mo_int, Y.mu_intR, Y.mu_intL, Y.fd_intS, Y.po_int, Y.c_lt, Y.c_le, Y.c_gt, Y.c_ge, Y.cc_le, Y.cc_lt, Y.c_isn_n, Y.c_isn_b, Y.c_isn_i, Y.c_isn_s, Y.c_isn_t, Y.c_isn_l, Y.c_nisn_n, Y.c_nisn_b, Y.c_nisn_i, Y.c_nisn_s, Y.c_nisn_t, Y.c_nisn_l, Y.c_eq, Y.c_ne, Y.n_tup, Y.n_lst, Y.n_int, Y.n_abs, Y.n_tt, Y.n_tl, Y.n_lt, Y.n_ll, Y.n_gcd, Y.ix_t0, Y.ix_t1, Y.ix_t2, Y.ix_l0, Y.ix_l1, Y.l_tup, Y.l_lst, Y.r_tup, Y.r_lst, List.map_cons, List.map_nil, List.cons_append, List.nil_append, List.replicate, List.getElem?_cons_zero, List.getElem?_cons_succ, List.length_cons, List.length_nil, List.set_cons_zero, List.set_cons_succ, if_true, Bool.false_eq_true, if_false, Bool.not_true, Bool.not_false, Nat.reduceLeDiff, Nat.reduceAdd, kn0, kn1, kn2, kn3, kn4, kn5, kn6, kn7, kn8, kn9, kn10, kn11, kn12, kn13, kn14, kn15, kn16, kn17, kn18, kn19, kn20, kn21, kn22, kn23, kn24, kn25, kn26, kn27, kn28, kn29, kn30, kn31, kn32, kn33, kn34, kn35, kn37, kn38, kn39, e])
  obtain ⟨os, rfl, _⟩ := map_enc hq
  have e3 : lcF false (os.map en) (Cup c2 []) = .ok (.lst (os.map en)) (Cup c2 []) := rfl
  rw [e3] at e2
  refine ⟨os, c2, ?_, by simp at hl; omega⟩
  unfold sC1
  unfold e37 at e2 ⊢
  simp only [evx_v, evx_k, evx_g, evx_bin, evx_cmp, evx_chn, evx_neg, evx_nt, evx_and, evx_or, evx_ite, evx_tup, evx_lst, evx_nlst, evx_ix, evx_sl, evx_rev, evx_app, evx_join, evx_call, evx_callv, evx_lam, evx_bi, evx_isi, exx_asg, exx_setix, exx_ex, exx_ite, exx_ret, exx_ret0, exx_brk, exx_cnt, exx_pas, exx_rai, Y.b_ok, Y.b_ex, Y.o_ok, Y.o_ex, Y.e_nil, Y.e_cons, Y.eo_none, Y.eo_some, Y.s_nil, Y.s_cons, Y.t_bl, Y.t_int, Y.t_tup, Y.t_lst, Y.t_non, Y.x_and, Y.x_or, Y.x_nt, Y.x_v, Y.x_k, Y.x_cmp, Y.x_chn, Y.x_call, Y.x_callv, Y.x_bi, Y.x_isi, Y.x_exi, Y.x_ix, Y.x_bin, Y.p_n, Y.p_t, Y.p_tl, Y.ps_cons, Y.ps_nil, Y.i_v, Y.i_ix, Y.i_tup, Y.i_lst, Y.i_k, Y.i_bin, Y.i_call, Y.i_sl, Y.i_rev, Y.i_lc, Y.i_rng, Y.i_rng2, Y.i_zip, Y.i_enum, Y.q_t, Y.q_l, Y.q_z, Y.q_zt, Y.q_e, Y.sz, Y.a_int, Y.a_tup, Y.a_lst, Y.su_int, Y.mo_int, Y.mu_intR, Y.mu_intL, Y.fd_intS, Y.po_int, Y.c_lt, Y.c_le, Y.c_gt, Y.c_ge, Y.cc_le, Y.cc_lt, Y.c_isn_n, Y.c_isn_b, Y.c_isn_i, Y.c_isn_s, Y.c_isn_t, Y.c_isn_l, Y.c_nisn_n, Y.c_nisn_b, Y.c_nisn_i, Y.c_nisn_s, Y.c_nisn_t, Y.c_nisn_l, Y.c_eq, Y.c_ne, Y.n_tup, Y.n_lst, Y.n_int, Y.n_abs, Y.n_tt, Y.n_tl, Y.n_lt, Y.n_ll, Y.n_gcd, Y.ix_t0, Y.ix_t1, Y.ix_t2, Y.ix_l0, Y.ix_l1, Y.l_tup, Y.l_lst, Y.r_tup, Y.r_lst, List.map_cons, List.map_nil, List.cons_append, List.nil_append, List.replicate, List.getElem?_cons_zero, List.getElem?_cons_succ, List.length_cons, List.length_nil, List.set_cons_zero, List.set_cons_succ, if_true, Bool.false_eq_true, if_false, Bool.not_true, Bool.not_false, Nat.reduceLeDiff, Nat.reduceAdd, kn0, kn1, kn2, kn3, kn4, kn5, kn6, kn7, kn8, kn9, kn10, kn11, kn12, kn13, kn14, kn15, kn16, kn17, kn18, kn19, kn20, kn21, kn22, kn23, kn24, kn25, kn26, kn27, kn28, kn29, kn30, kn31, kn32, kn33, kn34, kn35, kn37, kn38, kn39, e2]
  rfl
theorem r_3 (w : Nat) (hw : w < 4) (os : List Od) (k : Nat) (hk : k < (full w).length) (hl : os.length ≤ 6) (t3 t6 : Option D) : ∃ cs : List (List Od), exx (cl (n + 9)) LL.G {} sC3 (e37 w t3 (some (cd os)) (some (.int k)) t6 none) (Cup c []) = .nx (e37 w t3 (some (cd os)) (some (.int k)) (some (.lst (cs.map cd))) none) (Cup c []) ∧ cs.length = 5 ∧ ∀ o ∈ cs, o.length ≤ 50 := by
  obtain ⟨f, hf⟩ : ∃ f, (full w)[k]? = some f := ⟨_, List.getElem?_eq_getElem hk⟩
  have hF := full_len w hw
  have e1 : index (.tup ((full w).map en)) (.int k) (Cup c []) = .ok (en f) (Cup c []) := by
    rw [Y.ix_t, List.getElem?_map, hf]
    rfl
  have hk1 : (k : Int) + 1 = ((k + 1 : Nat) : Int) := by omega
  have z1 := Y.a_tup (Cup c []) (xs := ((full w).take k).map en) (ys := ((full w).drop (k + 1)).map en) (by simp; omega)
  have z2 := Y.a_tup (Cup c []) (xs := ((full w).take k).map en) (ys := [en f]) (by simp; omega)
  have z3 := Y.a_tup (Cup c []) (xs := ((full w).take k).map en ++ [en f]) (ys := ((full w).drop k).map en) (by simp; omega)
  have z4 := Y.a_tup (Cup c []) (xs := ((full w).drop k).map en) (ys := ((full w).take k).map en) (by simp; omega)
  have z5 := Y.a_tup (Cup c []) (xs := (full w).map en) (ys := [en f]) (by simp; omega)
  refine ⟨[os, (full w).take k ++ (full w).drop (k + 1), (full w).take k ++ [f] ++ (full w).drop k, (full w).drop k ++ (full w).take k, full w ++ [f]], ?_, rfl, ?_⟩
  · unfold sC3 e37 cd
    simp only [evx_v, evx_k, evx_g, evx_bin, evx_cmp, evx_chn, evx_neg, evx_nt, evx_and, evx_or, evx_ite, evx_tup, evx_lst, evx_nlst, evx_ix, evx_sl, evx_rev, evx_app, evx_join, evx_call, evx_callv, evx_lam, evx_bi, evx_isi, exx_asg, exx_setix, exx_ex, exx_ite, exx_ret, exx_ret0, exx_brk, exx_cnt, exx_pas, exx_rai, Y.b_ok, Y.b_ex, Y.o_ok, Y.o_ex, Y.e_nil, Y.e_cons, Y.eo_none, Y.eo_some, Y.s_nil, Y.s_cons, Y.t_bl, Y.t_int, Y.t_tup, Y.t_lst, Y.t_non, Y.x_and, Y.x_or, Y.x_nt, Y.x_v, Y.x_k, Y.x_cmp, Y.x_chn, Y.x_call, Y.x_callv, Y.x_bi, Y.x_isi, Y.x_exi, Y.x_ix, Y.x_bin, Y.p_n, Y.p_t, Y.p_tl, Y.ps_cons, Y.ps_nil, Y.i_v, Y.i_ix, Y.i_tup, Y.i_lst, Y.i_k, Y.i_bin, Y.i_call, Y.i_sl, Y.i_rev, Y.i_lc, Y.i_rng, Y.i_rng2, Y.i_zip, Y.i_enum, Y.q_t, Y.q_l, Y.q_z, Y.q_zt, Y.q_e, Y.sz, Y.a_int, Y.a_tup, Y.a_lst, Y.su_int, Y.mo_int, Y.mu_intR, Y.mu_intL, Y.fd_intS, Y.po_int, Y.c_lt, Y.c_le, Y.c_gt, Y.c_ge, Y.cc_le, Y.cc_lt, Y.c_isn_n, Y.c_isn_b, Y.c_isn_i, Y.c_isn_s, Y.c_isn_t, Y.c_isn_l, Y.c_nisn_n, Y.c_nisn_b, Y.c_nisn_i, Y.c_nisn_s, Y.c_nisn_t, Y.c_nisn_l, Y.c_eq, Y.c_ne, Y.n_tup, Y.n_lst, Y.n_int, Y.n_abs, Y.n_tt, Y.n_tl, Y.n_lt, Y.n_ll, Y.n_gcd, Y.ix_t0, Y.ix_t1, Y.ix_t2, Y.ix_l0, Y.ix_l1, Y.l_tup, Y.l_lst, Y.r_tup, Y.r_lst, List.map_cons, List.map_nil, List.cons_append, List.nil_append, List.replicate, List.getElem?_cons_zero, List.getElem?_cons_succ, List.length_cons, List.length_nil, List.set_cons_zero, List.set_cons_succ, if_true, Bool.false_eq_true, if_false, Bool.not_true, Bool.not_false, Nat.reduceLeDiff, Nat.reduceAdd, kn0, kn1, kn2, kn3, kn4, kn5, kn6, kn7, kn8, kn9, kn10, kn11, kn12, kn13, kn14, kn15, kn16, kn17, kn18, kn19, kn20, kn21, kn22, kn23, kn24, kn25, kn26, kn27, kn28, kn29, kn30, kn31, kn32, kn33, kn34, kn35, kn37, kn38, kn39, cut_en, cut_dr, e1, hk1, z1, z2, z3, z4, z5]
    simp only [List.map_append, List.map_cons, List.map_nil]
    try rfl
  · intro o ho
    simp only [List.mem_cons, List.not_mem_nil, or_false] at ho
    rcases ho with rfl | rfl | rfl | rfl | rfl <;> (try simp only [List.length_append, List.length_take, List.length_drop, List.length_singleton]) <;> omega
theorem r_4 (w : Nat) (hw : w < 4) (cs : List (List Od)) (h5 : cs.length = 5) (hc : ∀ o ∈ cs, o.length ≤ 50) (t3 t4 t5 : Option D) : exx (cl (n + 9)) LL.G {} sC4 (e37 w t3 t4 t5 (some (.lst (cs.map cd))) none) (Cup c []) = .nx (e37 w t3 t4 t5 (some (.lst (cs.map cd))) none) (Cup c []) := by
  have e1 := lc_filter (c := cl (n + 9)) (G := LL.G) (δ := e37 w t3 t4 t5 (some (.lst (cs.map cd))) none) (S := Cup c []) (S1 := Cup c []) (it := .v 6) (tg := .n 10) (own := [8, 10]) (elt := .v 10) (t := .nt (.call 29 [(.lst [(.call 22 [(.v 1), (.v 10)]), (.call 21 [(.v 10)])]), (.lst [(.call 34 [(.v 1), (.v 10)]), (.k (.bl true))])])) (gs := []) (enc := cd) (ys := cs) cd (fun _ => false) (by simp only [e37, evx_v, evx_k, evx_g, evx_bin, evx_cmp, evx_chn, evx_neg, evx_nt, evx_and, evx_or, evx_ite, evx_tup, evx_lst, evx_nlst, evx_ix, evx_sl, evx_rev, evx_app, evx_join, evx_call, evx_callv, evx_lam, evx_bi, evx_isi, exx_asg, exx_setix, exx_ex, exx_ite, exx_ret, exx_ret0, exx_brk, exx_cnt, exx_pas, exx_rai, Y.b_ok, Y.b_ex, Y.o_ok, Y.o_ex, Y.e_nil, Y.e_cons, Y.eo_none, Y.eo_some, Y.s_nil, Y.s_cons, Y.t_bl, Y.t_int, Y.t_tup, Y.t_lst, Y.t_non, Y.x_and, Y.x_or, Y.x_nt, Y.x_v, Y.x_k, Y.x_cmp, Y.x_chn, Y.x_call, Y.x_callv, Y.x_bi, Y.x_isi, Y.x_exi, Y.x_ix, Y.x_bin, Y.p_n, Y.p_t, Y.p_tl, Y.ps_cons, Y.ps_nil, Y.i_v, Y.i_ix, Y.i_tup, Y.i_lst, Y.i_k, Y.i_bin, Y.i_call, Y.i_sl, Y.i_rev, Y.i_lc, Y.i_rng, Y.i_rng2, Y.i_zip, Y.i_enum, Y.q_t, Y.q_l, Y.q_z, Y.q_zt, Y.q_e, Y.sz, Y.a_int, Y.a_tup, Y.a_lst, Y.su_int, Y.mo_int, Y.mu_intR, Y.mu_intL, Y.fd_intS, Y.po_int, Y.c_lt, Y.c_le, Y.c_gt, Y.c_ge, Y.cc_le, Y.cc_lt, Y.c_isn_n, Y.c_isn_b, Y.c_isn_i, Y.c_isn_s, Y.c_isn_t, Y.c_isn_l, Y.c_nisn_n, Y.c_nisn_b, Y.c_nisn_i, Y.c_nisn_s, Y.c_nisn_t, Y.c_nisn_l, Y.c_eq, Y.c_ne, Y.n_tup, Y.n_lst, Y.n_int, Y.n_abs, Y.n_tt, Y.n_tl, Y.n_lt, Y.n_ll, Y.n_gcd, Y.ix_t0, Y.ix_t1, Y.ix_t2, Y.ix_l0, Y.ix_l1, Y.l_tup, Y.l_lst, Y.r_tup, Y.r_lst, List.map_cons, List.map_nil, List.cons_append, List.nil_append, List.replicate, List.getElem?_cons_zero, List.getElem?_cons_succ, List.length_cons, List.length_nil, List.set_cons_zero, List.set_cons_succ, if_true, Bool.false_eq_true, if_false, Bool.not_true, Bool.not_false, Nat.reduceLeDiff, Nat.reduceAdd]) rfl (by omega) (fun os ho => by
    have a1 := s_code_fault (n := n + 1) (c := c) w hw os (hc os ho)
    have a2 := s_is_code (n := n + 5) (c := c) os (hc os ho)
    have a3 := s_lfault (n := n + 6) (c := c) w hw os (hc os ho)
    have hu := fF_under w os
    have a4 := s_like 3 (.lst [encO (fF w os), .bl true]) (by simp only [D.dp, D.dps]; have := hu.2.2; omega) (by simp only [D.pv, D.pvs, hu.2.1, Bool.and_true, decide_eq_true_eq]; simp) (n := n + 4) (gC (c := c))
    refine ⟨_, Y.p_n _ _ _ _, ?_, fun z => by cases z⟩
    simp only [Nat.add_assoc, Nat.reduceAdd] at a1 a2 a3 a4
    simp only [wipeD, e37, cd, evx_v, evx_k, evx_g, evx_bin, evx_cmp, evx_chn, evx_neg, evx_nt, evx_and, evx_or, evx_ite, evx_tup, evx_lst, evx_nlst, evx_ix, evx_sl, evx_rev, evx_app, evx_join, evx_call, evx_callv, evx_lam, evx_bi, evx_isi, exx_asg, exx_setix, exx_ex, exx_ite, exx_ret, exx_ret0, exx_brk, exx_cnt, exx_pas, exx_rai, Y.b_ok, Y.b_ex, Y.o_ok, Y.o_ex, Y.e_nil, Y.e_cons, Y.eo_none, Y.eo_some, Y.s_nil, Y.s_cons, Y.t_bl, Y.t_int, Y.t_tup, Y.t_lst, Y.t_non, Y.x_and, Y.x_or, Y.x_nt, Y.x_v, Y.x_k, Y.x_cmp, Y.x_chn, Y.x_call, Y.x_callv, Y.x_bi, Y.x_isi, Y.x_exi, Y.x_ix, Y.x_bin, Y.p_n, Y.p_t, Y.p_tl, Y.ps_cons, Y.ps_nil, Y.i_v, Y.i_ix, Y.i_tup, Y.i_lst, Y.i_k, Y.i_bin, Y.i_call, Y.i_sl, Y.i_rev, Y.i_lc, Y.i_rng, Y.i_rng2, Y.i_zip, Y.i_enum, Y.q_t, Y.q_l, Y.q_z, Y.q_zt, Y.q_e, Y.sz, Y.a_int, Y.a_tup, Y.a_lst, Y.su_int, Y.mo_int, Y.mu_intR, Y.mu_intL, Y.fd_intS, Y.po_int, Y.c_lt, Y.c_le, Y.c_gt, Y.c_ge, Y.cc_le, Y.cc_lt, Y.c_isn_n, Y.c_isn_b, Y.c_isn_i, Y.c_isn_s, Y.c_isn_t, Y.c_isn_l, Y.c_nisn_n, Y.c_nisn_b, Y.c_nisn_i, Y.c_nisn_s, Y.c_nisn_t, Y.c_nisn_l, Y.c_eq, Y.c_ne, Y.n_tup, Y.n_lst, Y.n_int, Y.n_abs, Y.n_tt, Y.n_tl, Y.n_lt, Y.n_ll, Y.n_gcd, Y.ix_t0, Y.ix_t1, Y.ix_t2, Y.ix_l0, Y.ix_l1, Y.l_tup, Y.l_lst, Y.r_tup, Y.r_lst, List.map_cons, List.map_nil, List.cons_append, List.nil_append, List.replicate, List.getElem?_cons_zero, List.getElem?_cons_succ, List.length_cons, List.length_nil, List.set_cons_zero, List.set_cons_succ, if_true, Bool.false_eq_true, if_false, Bool.not_true, Bool.not_false, Nat.reduceLeDiff, Nat.reduceAdd, kn0, kn1, kn2, kn3, kn4, kn5, kn6, kn7, kn8, kn9, kn10, kn11, kn12, kn13, kn14, kn15, kn16, kn17, kn18, kn19, kn20, kn21, kn22, kn23, kn24, kn25, kn26, kn27, kn28, kn29, kn30, kn31, kn32, kn33, kn34, kn35, kn37, kn38, kn39, Nat.add_assoc, a1, a2, a3, a4])
  have e2 : cs.filter (fun _ => false) = [] := by simp
  rw [e2, List.map_nil] at e1
  have e3 : cmpR .ne (.lst []) (.lst []) (Cup c []) = .ok (.bl false) (Cup c []) := rfl
  unfold sC4
  unfold e37 at e1 ⊢
  simp only [evx_v, evx_k, evx_g, evx_bin, evx_cmp, evx_chn, evx_neg, evx_nt, evx_and, evx_or, evx_ite, evx_tup, evx_lst, evx_nlst, evx_ix, evx_sl, evx_rev, evx_app, evx_join, evx_call, evx_callv, evx_lam, evx_bi, evx_isi, exx_asg, exx_setix, exx_ex, exx_ite, exx_ret, exx_ret0, exx_brk, exx_cnt, exx_pas, exx_rai, Y.b_ok, Y.b_ex, Y.o_ok, Y.o_ex, Y.e_nil, Y.e_cons, Y.eo_none, Y.eo_some, Y.s_nil, Y.s_cons, Y.t_bl, Y.t_int, Y.t_tup, Y.t_lst, Y.t_non, Y.x_and, Y.x_or, Y.x_nt, Y.x_v, Y.x_k, Y.x_cmp, Y.x_chn, Y.x_call, Y.x_callv, Y.x_bi, Y.x_isi, Y.x_exi, Y.x_ix, Y.x_bin, Y.p_n, Y.p_t, Y.p_tl, Y.ps_cons, Y.ps_nil, Y.i_v, Y.i_ix, Y.i_tup, Y.i_lst, Y.i_k, Y.i_bin, Y.i_call, Y.i_sl, Y.i_rev, Y.i_lc, Y.i_rng, Y.i_rng2, Y.i_zip, Y.i_enum, Y.q_t, Y.q_l, Y.q_z, Y.q_zt, Y.q_e, Y.sz, Y.a_int, Y.a_tup, Y.a_lst, Y.su_int, Y.mo_int, Y.mu_intR, Y.mu_intL, Y.fd_intS, Y.po_int, Y.c_lt, Y.c_le, Y.c_gt, Y.c_ge, Y.cc_le, Y.cc_lt, Y.c_isn_n, Y.c_isn_b, Y.c_isn_i, Y.c_isn_s, Y.c_isn_t, Y.c_isn_l, Y.c_nisn_n, Y.c_nisn_b, Y.c_nisn_i, Y.c_nisn_s, Y.c_nisn_t, Y.c_nisn_l, Y.c_eq, Y.c_ne, Y.n_tup, Y.n_lst, Y.n_int, Y.n_abs, Y.n_tt, Y.n_tl, Y.n_lt, Y.n_ll, Y.n_gcd, Y.ix_t0, Y.ix_t1, Y.ix_t2, Y.ix_l0, Y.ix_l1, Y.l_tup, Y.l_lst, Y.r_tup, Y.r_lst, List.map_cons, List.map_nil, List.cons_append, List.nil_append, List.replicate, List.getElem?_cons_zero, List.getElem?_cons_succ, List.length_cons, List.length_nil, List.set_cons_zero, List.set_cons_succ, if_true, Bool.false_eq_true, if_false, Bool.not_true, Bool.not_false, Nat.reduceLeDiff, Nat.reduceAdd, kn0, kn1, kn2, kn3, kn4, kn5, kn6, kn7, kn8, kn9, kn10, kn11, kn12, kn13, kn14, kn15, kn16, kn17, kn18, kn19, kn20, kn21, kn22, kn23, kn24, kn25, kn26, kn27, kn28, kn29, kn30, kn31, kn32, kn33, kn34, kn35, kn37, kn38, kn39, e1, e3]
theorem s_right (c : Cp) (w : Nat) (hw : w < 4) : ∃ c', (cl (n + 10)).ca 37 [.ref 0, stD w] (Cup c []) = .ok (.bl true) (Cup c' []) := by
  have e1 := r_a (n := n) (c := c) w hw
  obtain ⟨δ', S', e2, c', t3, t4, t5, t6, rfl, rfl⟩ := forl_go (enc := fun (i : Nat) => D.int (i : Int)) (g := stands []) (f := forF (.n 3) (exs (exx (cl (n + 9)) LL.G {}) [sC1, sC2, sC3, sC4])) (P := fun pre δ S' => ∃ c t3 t4 t5 t6, S' = Cup c [] ∧ δ = e37 w t3 t4 t5 t6 none) (List.range 4) (δ := e37 w none none none none none) (S := Cup c []) ⟨c, none, none, none, none, rfl, rfl⟩ (fun _ _ _ _ => rfl) (by
    rintro pre i post hp δ S' ⟨c, t3, t4, t5, t6, rfl, rfl⟩
    obtain ⟨os, c1, a1, hl⟩ := r_1 (n := n) (c := c) w (some (.int i)) t4 t5 t6
    have hF := full_len w hw
    obtain ⟨k, c2, a2, hk⟩ := s_roll (n := n + 8) goodR_nil c1 ((full w).length : Int) (by omega) (by omega)
    have b2 : exx (cl (n + 9)) LL.G {} sC2 (e37 w (some (.int i)) (some (cd os)) t5 t6 none) (Cup c1 []) = .nx (e37 w (some (.int i)) (some (cd os)) (some (.int k)) t6 none) (Cup c2 []) := by
      unfold sC2 e37
      simp only [evx_v, evx_k, evx_g, evx_bin, evx_cmp, evx_chn, evx_neg, evx_nt, evx_and, evx_or, evx_ite, evx_tup, evx_lst, evx_nlst, evx_ix, evx_sl, evx_rev, evx_app, evx_join, evx_call, evx_callv, evx_lam, evx_bi, evx_isi, exx_asg, exx_setix, exx_ex, exx_ite, exx_ret, exx_ret0, exx_brk, exx_cnt, exx_pas, exx_rai, Y.b_ok, Y.b_ex, Y.o_ok, Y.o_ex, Y.e_nil, Y.e_cons, Y.eo_none, Y.eo_some, Y.s_nil, Y.s_cons, Y.t_bl, Y.t_int, Y.t_tup, Y.t_lst, Y.t_non, Y.x_and, Y.x_or, Y.x_nt, Y.x_v, Y.x_k, Y.x_cmp, Y.x_chn, Y.x_call, Y.x_callv, Y.x_bi, Y.x_isi, Y.x_exi, Y.x_ix, Y.x_bin, Y.p_n, Y.p_t, Y.p_tl, Y.ps_cons, Y.ps_nil, Y.i_v, Y.i_ix, Y.i_tup, Y.i_lst, Y.i_k, Y.i_bin, Y.i_call, Y.i_sl, Y.i_rev, Y.i_lc, Y.i_rng, Y.i_rng2, Y.i_zip, Y.i_enum, Y.q_t, Y.q_l, Y.q_z, Y.q_zt, Y.q_e, Y.sz, Y.a_int, Y.a_tup, Y.a_lst, Y.su_int, Y.mo_int, Y.mu_intR, Y.mu_intL, Y.fd_intS, Y.po_int, Y.c_lt, Y.c_le, Y.c_gt, Y.c_ge, Y.cc_le, Y.cc_lt, Y.c_isn_n, Y.c_isn_b, Y.c_isn_i, Y.c_isn_s, Y.c_isn_t, Y.c_isn_l, Y.c_nisn_n, Y.c_nisn_b, Y.c_nisn_i, Y.c_nisn_s, Y.c_nisn_t, Y.c_nisn_l, Y.c_eq, Y.c_ne, Y.n_tup, Y.n_lst, Y.n_int, Y.n_abs, Y.n_tt, Y.n_tl, Y.n_lt, Y.n_ll, Y.n_gcd, Y.ix_t0, Y.ix_t1, Y.ix_t2, Y.ix_l0, Y.ix_l1, Y.l_tup, Y.l_lst, Y.r_tup, Y.r_lst, List.map_cons, List.map_nil, List.cons_append, List.nil_append, List.replicate, List.getElem?_cons_zero, List.getElem?_cons_succ, List.length_cons, List.length_nil, List.set_cons_zero, List.set_cons_succ, if_true, Bool.false_eq_true, if_false, Bool.not_true, Bool.not_false, Nat.reduceLeDiff, Nat.reduceAdd, kn0, kn1, kn2, kn3, kn4, kn5, kn6, kn7, kn8, kn9, kn10, kn11, kn12, kn13, kn14, kn15, kn16, kn17, kn18, kn19, kn20, kn21, kn22, kn23, kn24, kn25, kn26, kn27, kn28, kn29, kn30, kn31, kn32, kn33, kn34, kn35, kn37, kn38, kn39, List.length_map, a2]
      try rfl
    obtain ⟨cs, a3, h5, hc⟩ := r_3 (n := n) (c := c2) w hw os k (by omega) hl (some (.int i)) t6
    have a4 := r_4 (n := n) (c := c2) w hw cs h5 hc (some (.int i)) (some (cd os)) (some (.int k))
    refine ⟨_, _, ?_, c2, some (.int i), some (cd os), some (.int k), some (.lst (cs.map cd)), rfl, rfl⟩
    have hp : T.put (Cup c []) (.n 3) (.int i) (e37 w t3 t4 t5 t6 none) = some (e37 w (some (.int i)) t4 t5 t6 none) := Y.p_n _ _ _ _
    unfold forF
    rw [hp]
    exact x_nx a1 (x_nx b2 (x_nx a3 (x_nx a4 (Y.s_nil _ _ _)))))
  obtain ⟨δ2, e3⟩ := r_2 (n := n) (c := c') w hw t3 t4 t5 t6
  refine ⟨c', ?_⟩
  rw [ca_x (f := b37) (δ := [some (.ref 0), some (stD w), none, none, none, none, none, none, none, none, none]) rfl (by decide +kernel) (by decide +kernel) rfl rfl]
  have hr : rngR (.int 0) (.int 4) (Cup c []) = (.ok ((List.range 4).map (fun (i : Nat) => D.int (i : Int)), []) (Cup c []) : IT.R (List D × List (Nat × List D))) := rng_map _ (k := 4) (by decide)
  have hb : b37.body = stA ++ [.for_ (.n 3) (.rng none (.k (.int 4))) [sC1, sC2, sC3, sC4], st2, .ret (some (.k (.bl true)))] := rfl
  have happ : ∀ (f : IT.S → Env → Sto → O) (a b : List IT.S) (δ δ' : Env) (S S' : Sto), exs f a δ S = .nx δ' S' → exs f (a ++ b) δ S = exs f b δ' S' := by
    intro f a
    induction a with
    | nil => intro b δ δ' S S' h; rw [Y.s_nil] at h; cases h; rfl
    | cons s a ih =>
      intro b δ δ' S S' h
      rw [List.cons_append, Y.s_cons]
      rw [Y.s_cons] at h
      cases hs : f s δ S with
      | nx δ1 S1 => rw [hs] at h; exact ih b δ1 δ' S1 S' h
      | _ => rw [hs] at h; cases h
  have h1 : exx (cl (n + 9)) LL.G {} (.for_ (.n 3) (.rng none (.k (.int 4))) [sC1, sC2, sC3, sC4]) (e37 w none none none none none) (Cup c []) = .nx (e37 w t3 t4 t5 t6 none) (Cup c' []) := by
    rw [exx_for]
    simp only [evx_v, evx_k, evx_g, evx_bin, evx_cmp, evx_chn, evx_neg, evx_nt, evx_and, evx_or, evx_ite, evx_tup, evx_lst, evx_nlst, evx_ix, evx_sl, evx_rev, evx_app, evx_join, evx_call, evx_callv, evx_lam, evx_bi, evx_isi, exx_asg, exx_setix, exx_ex, exx_ite, exx_ret, exx_ret0, exx_brk, exx_cnt, exx_pas, exx_rai, Y.b_ok, Y.b_ex, Y.o_ok, Y.o_ex, Y.e_nil, Y.e_cons, Y.eo_none, Y.eo_some, Y.s_nil, Y.s_cons, Y.t_bl, Y.t_int, Y.t_tup, Y.t_lst, Y.t_non, Y.x_and, Y.x_or, Y.x_nt, Y.x_v, Y.x_k, Y.x_cmp, Y.x_chn, Y.x_call, Y.x_callv, Y.x_bi, Y.x_isi, Y.x_exi, Y.x_ix, Y.x_bin, Y.p_n, Y.p_t, Y.p_tl, Y.ps_cons, Y.ps_nil, Y.i_v, Y.i_ix, Y.i_tup, Y.i_lst, Y.i_k, Y.i_bin, Y.i_call, Y.i_sl, Y.i_rev, Y.i_lc, Y.i_rng, Y.i_rng2, Y.i_zip, Y.i_enum, Y.q_t, Y.q_l, Y.q_z, Y.q_zt, Y.q_e, Y.sz, Y.a_int, Y.a_tup, Y.a_lst, Y.su_int, Y.mo_int, Y.mu_intR, Y.mu_intL, Y.fd_intS, Y.po_int, Y.c_lt, Y.c_le, Y.c_gt, Y.c_ge, Y.cc_le, Y.cc_lt, Y.c_isn_n, Y.c_isn_b, Y.c_isn_i, Y.c_isn_s, Y.c_isn_t, Y.c_isn_l, Y.c_nisn_n, Y.c_nisn_b, Y.c_nisn_i, Y.c_nisn_s, Y.c_nisn_t, Y.c_nisn_l, Y.c_eq, Y.c_ne, Y.n_tup, Y.n_lst, Y.n_int, Y.n_abs, Y.n_tt, Y.n_tl, Y.n_lt, Y.n_ll, Y.n_gcd, Y.ix_t0, Y.ix_t1, Y.ix_t2, Y.ix_l0, Y.ix_l1, Y.l_tup, Y.l_lst, Y.r_tup, Y.r_lst, List.map_cons, List.map_nil, List.cons_append, List.nil_append, List.replicate, List.getElem?_cons_zero, List.getElem?_cons_succ, List.length_cons, List.length_nil, List.set_cons_zero, List.set_cons_succ, if_true, Bool.false_eq_true, if_false, Bool.not_true, Bool.not_false, Nat.reduceLeDiff, Nat.reduceAdd, hr]
    exact e2
  have h2 : exs (exx (cl (n + 9)) LL.G {}) b37.body [some (.ref 0), some (stD w), none, none, none, none, none, none, none, none, none] (Cup c []) = .rt (.bl true) (Cup c' []) := by
    rw [hb, happ _ _ _ _ _ _ _ e1]
    refine x_nx h1 (x_nx e3 (x_rt ?_))
    simp only [evx_v, evx_k, evx_g, evx_bin, evx_cmp, evx_chn, evx_neg, evx_nt, evx_and, evx_or, evx_ite, evx_tup, evx_lst, evx_nlst, evx_ix, evx_sl, evx_rev, evx_app, evx_join, evx_call, evx_callv, evx_lam, evx_bi, evx_isi, exx_asg, exx_setix, exx_ex, exx_ite, exx_ret, exx_ret0, exx_brk, exx_cnt, exx_pas, exx_rai, Y.b_ok, Y.b_ex, Y.o_ok, Y.o_ex, Y.e_nil, Y.e_cons, Y.eo_none, Y.eo_some, Y.s_nil, Y.s_cons, Y.t_bl, Y.t_int, Y.t_tup, Y.t_lst, Y.t_non, Y.x_and, Y.x_or, Y.x_nt, Y.x_v, Y.x_k, Y.x_cmp, Y.x_chn, Y.x_call, Y.x_callv, Y.x_bi, Y.x_isi, Y.x_exi, Y.x_ix, Y.x_bin, Y.p_n, Y.p_t, Y.p_tl, Y.ps_cons, Y.ps_nil, Y.i_v, Y.i_ix, Y.i_tup, Y.i_lst, Y.i_k, Y.i_bin, Y.i_call, Y.i_sl, Y.i_rev, Y.i_lc, Y.i_rng, Y.i_rng2, Y.i_zip, Y.i_enum, Y.q_t, Y.q_l, Y.q_z, Y.q_zt, Y.q_e, Y.sz, Y.a_int, Y.a_tup, Y.a_lst, Y.su_int, Y.mo_int, Y.mu_intR, Y.mu_intL, Y.fd_intS, Y.po_int, Y.c_lt, Y.c_le, Y.c_gt, Y.c_ge, Y.cc_le, Y.cc_lt, Y.c_isn_n, Y.c_isn_b, Y.c_isn_i, Y.c_isn_s, Y.c_isn_t, Y.c_isn_l, Y.c_nisn_n, Y.c_nisn_b, Y.c_nisn_i, Y.c_nisn_s, Y.c_nisn_t, Y.c_nisn_l, Y.c_eq, Y.c_ne, Y.n_tup, Y.n_lst, Y.n_int, Y.n_abs, Y.n_tt, Y.n_tl, Y.n_lt, Y.n_ll, Y.n_gcd, Y.ix_t0, Y.ix_t1, Y.ix_t2, Y.ix_l0, Y.ix_l1, Y.l_tup, Y.l_lst, Y.r_tup, Y.r_lst, List.map_cons, List.map_nil, List.cons_append, List.nil_append, List.replicate, List.getElem?_cons_zero, List.getElem?_cons_succ, List.length_cons, List.length_nil, List.set_cons_zero, List.set_cons_succ, if_true, Bool.false_eq_true, if_false, Bool.not_true, Bool.not_false, Nat.reduceLeDiff, Nat.reduceAdd]
  show endO b37.keep (Cup c []).length (exs (exx (cl (n + 9)) LL.G {}) b37.body [some (.ref 0), some (stD w), none, none, none, none, none, none, none, none, none] (Cup c [])) = _
  rw [h2]
  exact end_rt (S := Cup c' []) (d := .bl true) gC rfl
end
end K47
end
section
set_option Elab.async false
set_option linter.all false
set_option maxRecDepth 100000
set_option autoImplicit false
namespace K47
open IT
def qw0 : D := .str ("set error" : PySem.Str)
def qw1 : D := .str ("read" : PySem.Str)
def qw2 : D := .str ("rows" : PySem.Str)
def qw3 : D := .str ("word" : PySem.Str)
def qw4 : D := .str ("row" : PySem.Str)
def qw5 : D := .str ("code error" : PySem.Str)
def qw6 : D := .str ("1" : PySem.Str)
def qw7 : D := .str ("check" : PySem.Str)
def qw8 : D := .str ("log" : PySem.Str)
def qw9 : D := .str ("need" : PySem.Str)
def qw10 : D := .str ("twice" : PySem.Str)
def qw11 : D := .str ("none" : PySem.Str)
def qw12 : D := .str ("axis" : PySem.Str)
def qw13 : D := .str ("least" : PySem.Str)
theorem s_errors_0 (c : Cp) (y : D) : exx (cl 9) LL.G {} (.asg (.t [(.n 4), (.n 0)]) (.tup [(.tup [(.tup [(.k (.int 1)), (.tup [])]), (.k (.int 0)), (.tup [])]), (.nlst [])])) [none, none, none, none, none, none, none] (Cup c []) = .nx [some (.ref 1), none, none, none, some (.tup [(.tup [(.int 1), (.tup [])]), (.int 0), (.tup [])]), none, none] (Cup c [(.lst [])]) := by kernel_rfl
theorem s_errors_1_it (c : Cp) (y : D) : items (fun e S => evx (cl 9) LL.G {} e [some (.ref 1), none, none, none, some (.tup [(.tup [(.int 1), (.tup [])]), (.int 0), (.tup [])]), none, none] S) (.tup [(.k .non), (.tup []), (.tup [(.tup [(.k (.int 1)), (.tup [])]), (.k (.int 0))]), (.tup [(.tup [(.k (.int 1)), (.tup [])]), (.k (.int 9)), (.tup [])]), (.tup [(.tup [(.k (.int 1)), (.tup [])]), (.k (.int 0)), (.tup [(.tup [(.k (.int 1))])])]), (.tup [(.tup [(.k (.int 1)), (.tup [])]), (.k (.int 0)), (.k .non)]), (.lst [(.tup [(.k (.int 1)), (.tup [])]), (.k (.int 0)), (.tup [])])]) (Cup c [(.lst [])]) = .ok ([.non, (.tup []), (.tup [(.tup [(.int 1), (.tup [])]), (.int 0)]), (.tup [(.tup [(.int 1), (.tup [])]), (.int 9), (.tup [])]), (.tup [(.tup [(.int 1), (.tup [])]), (.int 0), (.tup [(.tup [(.int 1)])])]), (.tup [(.tup [(.int 1), (.tup [])]), (.int 0), .non]), (.lst [(.tup [(.int 1), (.tup [])]), (.int 0), (.tup [])])], []) (Cup c [(.lst [])]) := by kernel_rfl
theorem s_errors_1_t0 (c : Cp) (y : D) : forF (.n 2) (exs (exx (cl 9) LL.G {}) [.asg (.n 0) (.bin .cat (.v 0) (.lc false (.lam 36 (.callv 6 [(.v 2), (.k .non)])) (.n 6) (.tup [(.g 22), (.g 24)]) none [5, 6])), .ex (.app (.v 0) (.lam 36 (.call 23 [(.v 2)])))]) .non [some (.ref 1), none, none, none, some (.tup [(.tup [(.int 1), (.tup [])]), (.int 0), (.tup [])]), none, none] (Cup c [(.lst [])]) = .nx [some (.ref 2), none, some .non, none, some (.tup [(.tup [(.int 1), (.tup [])]), (.int 0), (.tup [])]), none, none] (Cup c [(.lst []), (.lst [qw0, qw0, qw0])]) := by kernel_rfl
theorem s_errors_1_t1 (c : Cp) (y : D) : forF (.n 2) (exs (exx (cl 9) LL.G {}) [.asg (.n 0) (.bin .cat (.v 0) (.lc false (.lam 36 (.callv 6 [(.v 2), (.k .non)])) (.n 6) (.tup [(.g 22), (.g 24)]) none [5, 6])), .ex (.app (.v 0) (.lam 36 (.call 23 [(.v 2)])))]) (.tup []) [some (.ref 2), none, some .non, none, some (.tup [(.tup [(.int 1), (.tup [])]), (.int 0), (.tup [])]), none, none] (Cup c [(.lst []), (.lst [qw0, qw0, qw0])]) = .nx [some (.ref 3), none, some (.tup []), none, some (.tup [(.tup [(.int 1), (.tup [])]), (.int 0), (.tup [])]), none, none] (Cup c [(.lst []), (.lst [qw0, qw0, qw0]), (.lst [qw0, qw0, qw0, qw0, qw0, qw0])]) := by kernel_rfl
theorem s_errors_1_t2 (c : Cp) (y : D) : forF (.n 2) (exs (exx (cl 9) LL.G {}) [.asg (.n 0) (.bin .cat (.v 0) (.lc false (.lam 36 (.callv 6 [(.v 2), (.k .non)])) (.n 6) (.tup [(.g 22), (.g 24)]) none [5, 6])), .ex (.app (.v 0) (.lam 36 (.call 23 [(.v 2)])))]) (.tup [(.tup [(.int 1), (.tup [])]), (.int 0)]) [some (.ref 3), none, some (.tup []), none, some (.tup [(.tup [(.int 1), (.tup [])]), (.int 0), (.tup [])]), none, none] (Cup c [(.lst []), (.lst [qw0, qw0, qw0]), (.lst [qw0, qw0, qw0, qw0, qw0, qw0])]) = .nx [some (.ref 4), none, some (.tup [(.tup [(.int 1), (.tup [])]), (.int 0)]), none, some (.tup [(.tup [(.int 1), (.tup [])]), (.int 0), (.tup [])]), none, none] (Cup c [(.lst []), (.lst [qw0, qw0, qw0]), (.lst [qw0, qw0, qw0, qw0, qw0, qw0]), (.lst [qw0, qw0, qw0, qw0, qw0, qw0, qw0, qw0, qw0])]) := by kernel_rfl
theorem s_errors_1_t3 (c : Cp) (y : D) : forF (.n 2) (exs (exx (cl 9) LL.G {}) [.asg (.n 0) (.bin .cat (.v 0) (.lc false (.lam 36 (.callv 6 [(.v 2), (.k .non)])) (.n 6) (.tup [(.g 22), (.g 24)]) none [5, 6])), .ex (.app (.v 0) (.lam 36 (.call 23 [(.v 2)])))]) (.tup [(.tup [(.int 1), (.tup [])]), (.int 9), (.tup [])]) [some (.ref 4), none, some (.tup [(.tup [(.int 1), (.tup [])]), (.int 0)]), none, some (.tup [(.tup [(.int 1), (.tup [])]), (.int 0), (.tup [])]), none, none] (Cup c [(.lst []), (.lst [qw0, qw0, qw0]), (.lst [qw0, qw0, qw0, qw0, qw0, qw0]), (.lst [qw0, qw0, qw0, qw0, qw0, qw0, qw0, qw0, qw0])]) = .nx [some (.ref 5), none, some (.tup [(.tup [(.int 1), (.tup [])]), (.int 9), (.tup [])]), none, some (.tup [(.tup [(.int 1), (.tup [])]), (.int 0), (.tup [])]), none, none] (Cup c [(.lst []), (.lst [qw0, qw0, qw0]), (.lst [qw0, qw0, qw0, qw0, qw0, qw0]), (.lst [qw0, qw0, qw0, qw0, qw0, qw0, qw0, qw0, qw0]), (.lst (List.replicate 12 qw0))]) := by kernel_rfl
theorem s_errors_1_t4 (c : Cp) (y : D) : forF (.n 2) (exs (exx (cl 9) LL.G {}) [.asg (.n 0) (.bin .cat (.v 0) (.lc false (.lam 36 (.callv 6 [(.v 2), (.k .non)])) (.n 6) (.tup [(.g 22), (.g 24)]) none [5, 6])), .ex (.app (.v 0) (.lam 36 (.call 23 [(.v 2)])))]) (.tup [(.tup [(.int 1), (.tup [])]), (.int 0), (.tup [(.tup [(.int 1)])])]) [some (.ref 5), none, some (.tup [(.tup [(.int 1), (.tup [])]), (.int 9), (.tup [])]), none, some (.tup [(.tup [(.int 1), (.tup [])]), (.int 0), (.tup [])]), none, none] (Cup c [(.lst []), (.lst [qw0, qw0, qw0]), (.lst [qw0, qw0, qw0, qw0, qw0, qw0]), (.lst [qw0, qw0, qw0, qw0, qw0, qw0, qw0, qw0, qw0]), (.lst (List.replicate 12 qw0))]) = .nx [some (.ref 6), none, some (.tup [(.tup [(.int 1), (.tup [])]), (.int 0), (.tup [(.tup [(.int 1)])])]), none, some (.tup [(.tup [(.int 1), (.tup [])]), (.int 0), (.tup [])]), none, none] (Cup c [(.lst []), (.lst [qw0, qw0, qw0]), (.lst [qw0, qw0, qw0, qw0, qw0, qw0]), (.lst [qw0, qw0, qw0, qw0, qw0, qw0, qw0, qw0, qw0]), (.lst (List.replicate 12 qw0)), (.lst (List.replicate 15 qw0))]) := by kernel_rfl
theorem s_errors_1_t5 (c : Cp) (y : D) : forF (.n 2) (exs (exx (cl 9) LL.G {}) [.asg (.n 0) (.bin .cat (.v 0) (.lc false (.lam 36 (.callv 6 [(.v 2), (.k .non)])) (.n 6) (.tup [(.g 22), (.g 24)]) none [5, 6])), .ex (.app (.v 0) (.lam 36 (.call 23 [(.v 2)])))]) (.tup [(.tup [(.int 1), (.tup [])]), (.int 0), .non]) [some (.ref 6), none, some (.tup [(.tup [(.int 1), (.tup [])]), (.int 0), (.tup [(.tup [(.int 1)])])]), none, some (.tup [(.tup [(.int 1), (.tup [])]), (.int 0), (.tup [])]), none, none] (Cup c [(.lst []), (.lst [qw0, qw0, qw0]), (.lst [qw0, qw0, qw0, qw0, qw0, qw0]), (.lst [qw0, qw0, qw0, qw0, qw0, qw0, qw0, qw0, qw0]), (.lst (List.replicate 12 qw0)), (.lst (List.replicate 15 qw0))]) = .nx [some (.ref 7), none, some (.tup [(.tup [(.int 1), (.tup [])]), (.int 0), .non]), none, some (.tup [(.tup [(.int 1), (.tup [])]), (.int 0), (.tup [])]), none, none] (Cup c [(.lst []), (.lst [qw0, qw0, qw0]), (.lst [qw0, qw0, qw0, qw0, qw0, qw0]), (.lst [qw0, qw0, qw0, qw0, qw0, qw0, qw0, qw0, qw0]), (.lst (List.replicate 12 qw0)), (.lst (List.replicate 15 qw0)), (.lst (List.replicate 18 qw0))]) := by kernel_rfl
theorem s_errors_1_t6 (c : Cp) (y : D) : forF (.n 2) (exs (exx (cl 9) LL.G {}) [.asg (.n 0) (.bin .cat (.v 0) (.lc false (.lam 36 (.callv 6 [(.v 2), (.k .non)])) (.n 6) (.tup [(.g 22), (.g 24)]) none [5, 6])), .ex (.app (.v 0) (.lam 36 (.call 23 [(.v 2)])))]) (.lst [(.tup [(.int 1), (.tup [])]), (.int 0), (.tup [])]) [some (.ref 7), none, some (.tup [(.tup [(.int 1), (.tup [])]), (.int 0), .non]), none, some (.tup [(.tup [(.int 1), (.tup [])]), (.int 0), (.tup [])]), none, none] (Cup c [(.lst []), (.lst [qw0, qw0, qw0]), (.lst [qw0, qw0, qw0, qw0, qw0, qw0]), (.lst [qw0, qw0, qw0, qw0, qw0, qw0, qw0, qw0, qw0]), (.lst (List.replicate 12 qw0)), (.lst (List.replicate 15 qw0)), (.lst (List.replicate 18 qw0))]) = .nx [some (.ref 8), none, some (.lst [(.tup [(.int 1), (.tup [])]), (.int 0), (.tup [])]), none, some (.tup [(.tup [(.int 1), (.tup [])]), (.int 0), (.tup [])]), none, none] (Cup c [(.lst []), (.lst [qw0, qw0, qw0]), (.lst [qw0, qw0, qw0, qw0, qw0, qw0]), (.lst [qw0, qw0, qw0, qw0, qw0, qw0, qw0, qw0, qw0]), (.lst (List.replicate 12 qw0)), (.lst (List.replicate 15 qw0)), (.lst (List.replicate 18 qw0)), (.lst (List.replicate 21 qw0))]) := by kernel_rfl
theorem s_errors_1 (c : Cp) (y : D) : exx (cl 9) LL.G {} (.for_ (.n 2) (.tup [(.k .non), (.tup []), (.tup [(.tup [(.k (.int 1)), (.tup [])]), (.k (.int 0))]), (.tup [(.tup [(.k (.int 1)), (.tup [])]), (.k (.int 9)), (.tup [])]), (.tup [(.tup [(.k (.int 1)), (.tup [])]), (.k (.int 0)), (.tup [(.tup [(.k (.int 1))])])]), (.tup [(.tup [(.k (.int 1)), (.tup [])]), (.k (.int 0)), (.k .non)]), (.lst [(.tup [(.k (.int 1)), (.tup [])]), (.k (.int 0)), (.tup [])])]) [
  .asg (.n 0) (.bin .cat (.v 0) (.lc false (.lam 36 (.callv 6 [(.v 2), (.k .non)])) (.n 6) (.tup [(.g 22), (.g 24)]) none [5, 6])),
  .ex (.app (.v 0) (.lam 36 (.call 23 [(.v 2)])))]) [some (.ref 1), none, none, none, some (.tup [(.tup [(.int 1), (.tup [])]), (.int 0), (.tup [])]), none, none] (Cup c [(.lst [])]) = .nx [some (.ref 8), none, some (.lst [(.tup [(.int 1), (.tup [])]), (.int 0), (.tup [])]), none, some (.tup [(.tup [(.int 1), (.tup [])]), (.int 0), (.tup [])]), none, none] (Cup c [(.lst []), (.lst [qw0, qw0, qw0]), (.lst [qw0, qw0, qw0, qw0, qw0, qw0]), (.lst [qw0, qw0, qw0, qw0, qw0, qw0, qw0, qw0, qw0]), (.lst (List.replicate 12 qw0)), (.lst (List.replicate 15 qw0)), (.lst (List.replicate 18 qw0)), (.lst (List.replicate 21 qw0))]) := for_cl (s_errors_1_it c y) (forl_nx rfl (s_errors_1_t0 c y) (forl_nx rfl (s_errors_1_t1 c y) (forl_nx rfl (s_errors_1_t2 c y) (forl_nx rfl (s_errors_1_t3 c y) (forl_nx rfl (s_errors_1_t4 c y) (forl_nx rfl (s_errors_1_t5 c y) (forl_nx rfl (s_errors_1_t6 c y) (forl_nil0 rfl))))))))
theorem s_errors_2 (c : Cp) (y : D) : exx (cl 9) LL.G {} (.asg (.n 1) (.tup [(.k .non), (.tup [(.k qw1)]), (.lst [(.tup [(.k qw1)])]), (.bin .mul (.tup [(.tup [(.k qw1)])]) (.k (.int 51))), (.tup [(.tup [])]), (.tup [(.tup [(.k qw2)])]), (.tup [(.tup [(.k qw3)])]), (.tup [(.tup [(.k qw3), (.k (.int 10))])]), (.tup [(.tup [(.k qw3), (.neg (.k (.int 1)))])]), (.tup [(.tup [(.k qw3), (.k (.bl true))])]), (.tup [(.lst [(.k qw4)])]), (.tup [(.tup [(.k qw1), (.k (.int 0))])])])) [some (.ref 8), none, some (.lst [(.tup [(.int 1), (.tup [])]), (.int 0), (.tup [])]), none, some (.tup [(.tup [(.int 1), (.tup [])]), (.int 0), (.tup [])]), none, none] (Cup c [(.lst []), (.lst [qw0, qw0, qw0]), (.lst [qw0, qw0, qw0, qw0, qw0, qw0]), (.lst [qw0, qw0, qw0, qw0, qw0, qw0, qw0, qw0, qw0]), (.lst (List.replicate 12 qw0)), (.lst (List.replicate 15 qw0)), (.lst (List.replicate 18 qw0)), (.lst (List.replicate 21 qw0))]) = .nx [some (.ref 8), some (.tup [.non, (.tup [qw1]), (.lst [(.tup [qw1])]), (.tup (List.replicate 51 (.tup [qw1]))), (.tup [(.tup [])]), (.tup [(.tup [qw2])]), (.tup [(.tup [qw3])]), (.tup [(.tup [qw3, (.int 10)])]), (.tup [(.tup [qw3, (.int (-1))])]), (.tup [(.tup [qw3, (.bl true)])]), (.tup [(.lst [qw4])]), (.tup [(.tup [qw1, (.int 0)])])]), some (.lst [(.tup [(.int 1), (.tup [])]), (.int 0), (.tup [])]), none, some (.tup [(.tup [(.int 1), (.tup [])]), (.int 0), (.tup [])]), none, none] (Cup c [(.lst []), (.lst [qw0, qw0, qw0]), (.lst [qw0, qw0, qw0, qw0, qw0, qw0]), (.lst [qw0, qw0, qw0, qw0, qw0, qw0, qw0, qw0, qw0]), (.lst (List.replicate 12 qw0)), (.lst (List.replicate 15 qw0)), (.lst (List.replicate 18 qw0)), (.lst (List.replicate 21 qw0))]) := by kernel_rfl
theorem s_errors_3 (c : Cp) (y : D) : exx (cl 9) LL.G {} (.asg (.n 0) (.bin .cat (.v 0) (.lc false (.lam 36 (.call 22 [(.v 4), (.v 2)])) (.n 2) (.v 1) none [5, 2]))) [some (.ref 8), some (.tup [.non, (.tup [qw1]), (.lst [(.tup [qw1])]), (.tup (List.replicate 51 (.tup [qw1]))), (.tup [(.tup [])]), (.tup [(.tup [qw2])]), (.tup [(.tup [qw3])]), (.tup [(.tup [qw3, (.int 10)])]), (.tup [(.tup [qw3, (.int (-1))])]), (.tup [(.tup [qw3, (.bl true)])]), (.tup [(.lst [qw4])]), (.tup [(.tup [qw1, (.int 0)])])]), some (.lst [(.tup [(.int 1), (.tup [])]), (.int 0), (.tup [])]), none, some (.tup [(.tup [(.int 1), (.tup [])]), (.int 0), (.tup [])]), none, none] (Cup c [(.lst []), (.lst [qw0, qw0, qw0]), (.lst [qw0, qw0, qw0, qw0, qw0, qw0]), (.lst [qw0, qw0, qw0, qw0, qw0, qw0, qw0, qw0, qw0]), (.lst (List.replicate 12 qw0)), (.lst (List.replicate 15 qw0)), (.lst (List.replicate 18 qw0)), (.lst (List.replicate 21 qw0))]) = .nx [some (.ref 9), some (.tup [.non, (.tup [qw1]), (.lst [(.tup [qw1])]), (.tup (List.replicate 51 (.tup [qw1]))), (.tup [(.tup [])]), (.tup [(.tup [qw2])]), (.tup [(.tup [qw3])]), (.tup [(.tup [qw3, (.int 10)])]), (.tup [(.tup [qw3, (.int (-1))])]), (.tup [(.tup [qw3, (.bl true)])]), (.tup [(.lst [qw4])]), (.tup [(.tup [qw1, (.int 0)])])]), some (.lst [(.tup [(.int 1), (.tup [])]), (.int 0), (.tup [])]), none, some (.tup [(.tup [(.int 1), (.tup [])]), (.int 0), (.tup [])]), none, none] (Cup c [(.lst []), (.lst [qw0, qw0, qw0]), (.lst [qw0, qw0, qw0, qw0, qw0, qw0]), (.lst [qw0, qw0, qw0, qw0, qw0, qw0, qw0, qw0, qw0]), (.lst (List.replicate 12 qw0)), (.lst (List.replicate 15 qw0)), (.lst (List.replicate 18 qw0)), (.lst (List.replicate 21 qw0)), (.lst [qw0, qw0, qw0, qw0, qw0, qw0, qw0, qw0, qw0, qw0, qw0, qw0, qw0, qw0, qw0, qw0, qw0, qw0, qw0, qw0, qw0, qw5, qw5, qw5, qw5, qw5, qw5, qw5, qw5, qw5, qw5, qw5, qw5])]) := by kernel_rfl
theorem s_errors_4 (c : Cp) (y : D) : exx (cl 9) LL.G {} (.asg (.n 0) (.bin .cat (.v 0) (.lc false (.lam 36 (.call 24 [(.v 4), (.v 2)])) (.n 2) (.tup [(.k .non), (.tup []), (.tup [(.k qw2)]), (.tup [(.k qw3)]), (.tup [(.k qw3), (.k (.int 10))]), (.lst [(.k qw4)]), (.tup [(.tup [(.k qw4)])])]) none [5, 2]))) [some (.ref 9), some (.tup [.non, (.tup [qw1]), (.lst [(.tup [qw1])]), (.tup (List.replicate 51 (.tup [qw1]))), (.tup [(.tup [])]), (.tup [(.tup [qw2])]), (.tup [(.tup [qw3])]), (.tup [(.tup [qw3, (.int 10)])]), (.tup [(.tup [qw3, (.int (-1))])]), (.tup [(.tup [qw3, (.bl true)])]), (.tup [(.lst [qw4])]), (.tup [(.tup [qw1, (.int 0)])])]), some (.lst [(.tup [(.int 1), (.tup [])]), (.int 0), (.tup [])]), none, some (.tup [(.tup [(.int 1), (.tup [])]), (.int 0), (.tup [])]), none, none] (Cup c [(.lst []), (.lst [qw0, qw0, qw0]), (.lst [qw0, qw0, qw0, qw0, qw0, qw0]), (.lst [qw0, qw0, qw0, qw0, qw0, qw0, qw0, qw0, qw0]), (.lst (List.replicate 12 qw0)), (.lst (List.replicate 15 qw0)), (.lst (List.replicate 18 qw0)), (.lst (List.replicate 21 qw0)), (.lst [qw0, qw0, qw0, qw0, qw0, qw0, qw0, qw0, qw0, qw0, qw0, qw0, qw0, qw0, qw0, qw0, qw0, qw0, qw0, qw0, qw0, qw5, qw5, qw5, qw5, qw5, qw5, qw5, qw5, qw5, qw5, qw5, qw5])]) = .nx [some (.ref 10), some (.tup [.non, (.tup [qw1]), (.lst [(.tup [qw1])]), (.tup (List.replicate 51 (.tup [qw1]))), (.tup [(.tup [])]), (.tup [(.tup [qw2])]), (.tup [(.tup [qw3])]), (.tup [(.tup [qw3, (.int 10)])]), (.tup [(.tup [qw3, (.int (-1))])]), (.tup [(.tup [qw3, (.bl true)])]), (.tup [(.lst [qw4])]), (.tup [(.tup [qw1, (.int 0)])])]), some (.lst [(.tup [(.int 1), (.tup [])]), (.int 0), (.tup [])]), none, some (.tup [(.tup [(.int 1), (.tup [])]), (.int 0), (.tup [])]), none, none] (Cup c [(.lst []), (.lst [qw0, qw0, qw0]), (.lst [qw0, qw0, qw0, qw0, qw0, qw0]), (.lst [qw0, qw0, qw0, qw0, qw0, qw0, qw0, qw0, qw0]), (.lst (List.replicate 12 qw0)), (.lst (List.replicate 15 qw0)), (.lst (List.replicate 18 qw0)), (.lst (List.replicate 21 qw0)), (.lst [qw0, qw0, qw0, qw0, qw0, qw0, qw0, qw0, qw0, qw0, qw0, qw0, qw0, qw0, qw0, qw0, qw0, qw0, qw0, qw0, qw0, qw5, qw5, qw5, qw5, qw5, qw5, qw5, qw5, qw5, qw5, qw5, qw5]), (.lst [qw0, qw0, qw0, qw0, qw0, qw0, qw0, qw0, qw0, qw0, qw0, qw0, qw0, qw0, qw0, qw0, qw0, qw0, qw0, qw0, qw0, qw5, qw5, qw5, qw5, qw5, qw5, qw5, qw5, qw5, qw5, qw5, qw5, qw5, qw5, qw5, qw5, qw5, qw5, qw5])]) := by kernel_rfl
theorem s_errors_5 (c : Cp) (y : D) : exx (cl 9) LL.G {} (.ite (.cmp .ne (.v 0) (.bin .add (.bin .mul (.lst [(.k qw0)]) (.k (.int 21))) (.bin .mul (.lst [(.k qw5)]) (.k (.int 19))))) [
  .ret (some (.k (.bl false)))] []) [some (.ref 10), some (.tup [.non, (.tup [qw1]), (.lst [(.tup [qw1])]), (.tup (List.replicate 51 (.tup [qw1]))), (.tup [(.tup [])]), (.tup [(.tup [qw2])]), (.tup [(.tup [qw3])]), (.tup [(.tup [qw3, (.int 10)])]), (.tup [(.tup [qw3, (.int (-1))])]), (.tup [(.tup [qw3, (.bl true)])]), (.tup [(.lst [qw4])]), (.tup [(.tup [qw1, (.int 0)])])]), some (.lst [(.tup [(.int 1), (.tup [])]), (.int 0), (.tup [])]), none, some (.tup [(.tup [(.int 1), (.tup [])]), (.int 0), (.tup [])]), none, none] (Cup c [(.lst []), (.lst [qw0, qw0, qw0]), (.lst [qw0, qw0, qw0, qw0, qw0, qw0]), (.lst [qw0, qw0, qw0, qw0, qw0, qw0, qw0, qw0, qw0]), (.lst (List.replicate 12 qw0)), (.lst (List.replicate 15 qw0)), (.lst (List.replicate 18 qw0)), (.lst (List.replicate 21 qw0)), (.lst [qw0, qw0, qw0, qw0, qw0, qw0, qw0, qw0, qw0, qw0, qw0, qw0, qw0, qw0, qw0, qw0, qw0, qw0, qw0, qw0, qw0, qw5, qw5, qw5, qw5, qw5, qw5, qw5, qw5, qw5, qw5, qw5, qw5]), (.lst [qw0, qw0, qw0, qw0, qw0, qw0, qw0, qw0, qw0, qw0, qw0, qw0, qw0, qw0, qw0, qw0, qw0, qw0, qw0, qw0, qw0, qw5, qw5, qw5, qw5, qw5, qw5, qw5, qw5, qw5, qw5, qw5, qw5, qw5, qw5, qw5, qw5, qw5, qw5, qw5])]) = .nx [some (.ref 10), some (.tup [.non, (.tup [qw1]), (.lst [(.tup [qw1])]), (.tup (List.replicate 51 (.tup [qw1]))), (.tup [(.tup [])]), (.tup [(.tup [qw2])]), (.tup [(.tup [qw3])]), (.tup [(.tup [qw3, (.int 10)])]), (.tup [(.tup [qw3, (.int (-1))])]), (.tup [(.tup [qw3, (.bl true)])]), (.tup [(.lst [qw4])]), (.tup [(.tup [qw1, (.int 0)])])]), some (.lst [(.tup [(.int 1), (.tup [])]), (.int 0), (.tup [])]), none, some (.tup [(.tup [(.int 1), (.tup [])]), (.int 0), (.tup [])]), none, none] (Cup c [(.lst []), (.lst [qw0, qw0, qw0]), (.lst [qw0, qw0, qw0, qw0, qw0, qw0]), (.lst [qw0, qw0, qw0, qw0, qw0, qw0, qw0, qw0, qw0]), (.lst (List.replicate 12 qw0)), (.lst (List.replicate 15 qw0)), (.lst (List.replicate 18 qw0)), (.lst (List.replicate 21 qw0)), (.lst [qw0, qw0, qw0, qw0, qw0, qw0, qw0, qw0, qw0, qw0, qw0, qw0, qw0, qw0, qw0, qw0, qw0, qw0, qw0, qw0, qw0, qw5, qw5, qw5, qw5, qw5, qw5, qw5, qw5, qw5, qw5, qw5, qw5]), (.lst [qw0, qw0, qw0, qw0, qw0, qw0, qw0, qw0, qw0, qw0, qw0, qw0, qw0, qw0, qw0, qw0, qw0, qw0, qw0, qw0, qw0, qw5, qw5, qw5, qw5, qw5, qw5, qw5, qw5, qw5, qw5, qw5, qw5, qw5, qw5, qw5, qw5, qw5, qw5, qw5])]) := by kernel_rfl
theorem s_errors_6_0 (c : Cp) (y : D) : evx (cl 9) LL.G {} (.call 20 [(.tup [(.k qw3), (.k (.int 9))])]) [some (.ref 10), some (.tup [.non, (.tup [qw1]), (.lst [(.tup [qw1])]), (.tup (List.replicate 51 (.tup [qw1]))), (.tup [(.tup [])]), (.tup [(.tup [qw2])]), (.tup [(.tup [qw3])]), (.tup [(.tup [qw3, (.int 10)])]), (.tup [(.tup [qw3, (.int (-1))])]), (.tup [(.tup [qw3, (.bl true)])]), (.tup [(.lst [qw4])]), (.tup [(.tup [qw1, (.int 0)])])]), some (.lst [(.tup [(.int 1), (.tup [])]), (.int 0), (.tup [])]), none, some (.tup [(.tup [(.int 1), (.tup [])]), (.int 0), (.tup [])]), none, none] (Cup c [(.lst []), (.lst [qw0, qw0, qw0]), (.lst [qw0, qw0, qw0, qw0, qw0, qw0]), (.lst [qw0, qw0, qw0, qw0, qw0, qw0, qw0, qw0, qw0]), (.lst (List.replicate 12 qw0)), (.lst (List.replicate 15 qw0)), (.lst (List.replicate 18 qw0)), (.lst (List.replicate 21 qw0)), (.lst [qw0, qw0, qw0, qw0, qw0, qw0, qw0, qw0, qw0, qw0, qw0, qw0, qw0, qw0, qw0, qw0, qw0, qw0, qw0, qw0, qw0, qw5, qw5, qw5, qw5, qw5, qw5, qw5, qw5, qw5, qw5, qw5, qw5]), (.lst [qw0, qw0, qw0, qw0, qw0, qw0, qw0, qw0, qw0, qw0, qw0, qw0, qw0, qw0, qw0, qw0, qw0, qw0, qw0, qw0, qw0, qw5, qw5, qw5, qw5, qw5, qw5, qw5, qw5, qw5, qw5, qw5, qw5, qw5, qw5, qw5, qw5, qw5, qw5, qw5])]) = .ok (.bl true) (Cup c [(.lst []), (.lst [qw0, qw0, qw0]), (.lst [qw0, qw0, qw0, qw0, qw0, qw0]), (.lst [qw0, qw0, qw0, qw0, qw0, qw0, qw0, qw0, qw0]), (.lst (List.replicate 12 qw0)), (.lst (List.replicate 15 qw0)), (.lst (List.replicate 18 qw0)), (.lst (List.replicate 21 qw0)), (.lst [qw0, qw0, qw0, qw0, qw0, qw0, qw0, qw0, qw0, qw0, qw0, qw0, qw0, qw0, qw0, qw0, qw0, qw0, qw0, qw0, qw0, qw5, qw5, qw5, qw5, qw5, qw5, qw5, qw5, qw5, qw5, qw5, qw5]), (.lst [qw0, qw0, qw0, qw0, qw0, qw0, qw0, qw0, qw0, qw0, qw0, qw0, qw0, qw0, qw0, qw0, qw0, qw0, qw0, qw0, qw0, qw5, qw5, qw5, qw5, qw5, qw5, qw5, qw5, qw5, qw5, qw5, qw5, qw5, qw5, qw5, qw5, qw5, qw5, qw5])]) := by kernel_rfl
theorem s_errors_6_1 (c : Cp) (y : D) : evx (cl 9) LL.G {} (.call 20 [(.tup [(.k qw3), (.k (.int 10))])]) [some (.ref 10), some (.tup [.non, (.tup [qw1]), (.lst [(.tup [qw1])]), (.tup (List.replicate 51 (.tup [qw1]))), (.tup [(.tup [])]), (.tup [(.tup [qw2])]), (.tup [(.tup [qw3])]), (.tup [(.tup [qw3, (.int 10)])]), (.tup [(.tup [qw3, (.int (-1))])]), (.tup [(.tup [qw3, (.bl true)])]), (.tup [(.lst [qw4])]), (.tup [(.tup [qw1, (.int 0)])])]), some (.lst [(.tup [(.int 1), (.tup [])]), (.int 0), (.tup [])]), none, some (.tup [(.tup [(.int 1), (.tup [])]), (.int 0), (.tup [])]), none, none] (Cup c [(.lst []), (.lst [qw0, qw0, qw0]), (.lst [qw0, qw0, qw0, qw0, qw0, qw0]), (.lst [qw0, qw0, qw0, qw0, qw0, qw0, qw0, qw0, qw0]), (.lst (List.replicate 12 qw0)), (.lst (List.replicate 15 qw0)), (.lst (List.replicate 18 qw0)), (.lst (List.replicate 21 qw0)), (.lst [qw0, qw0, qw0, qw0, qw0, qw0, qw0, qw0, qw0, qw0, qw0, qw0, qw0, qw0, qw0, qw0, qw0, qw0, qw0, qw0, qw0, qw5, qw5, qw5, qw5, qw5, qw5, qw5, qw5, qw5, qw5, qw5, qw5]), (.lst [qw0, qw0, qw0, qw0, qw0, qw0, qw0, qw0, qw0, qw0, qw0, qw0, qw0, qw0, qw0, qw0, qw0, qw0, qw0, qw0, qw0, qw5, qw5, qw5, qw5, qw5, qw5, qw5, qw5, qw5, qw5, qw5, qw5, qw5, qw5, qw5, qw5, qw5, qw5, qw5])]) = .ok (.bl false) (Cup c [(.lst []), (.lst [qw0, qw0, qw0]), (.lst [qw0, qw0, qw0, qw0, qw0, qw0]), (.lst [qw0, qw0, qw0, qw0, qw0, qw0, qw0, qw0, qw0]), (.lst (List.replicate 12 qw0)), (.lst (List.replicate 15 qw0)), (.lst (List.replicate 18 qw0)), (.lst (List.replicate 21 qw0)), (.lst [qw0, qw0, qw0, qw0, qw0, qw0, qw0, qw0, qw0, qw0, qw0, qw0, qw0, qw0, qw0, qw0, qw0, qw0, qw0, qw0, qw0, qw5, qw5, qw5, qw5, qw5, qw5, qw5, qw5, qw5, qw5, qw5, qw5]), (.lst [qw0, qw0, qw0, qw0, qw0, qw0, qw0, qw0, qw0, qw0, qw0, qw0, qw0, qw0, qw0, qw0, qw0, qw0, qw0, qw0, qw0, qw5, qw5, qw5, qw5, qw5, qw5, qw5, qw5, qw5, qw5, qw5, qw5, qw5, qw5, qw5, qw5, qw5, qw5, qw5])]) := by kernel_rfl
theorem s_errors_6_2 (c : Cp) (y : D) : evx (cl 9) LL.G {} (.call 20 [(.tup [(.k qw3), (.k qw6)])]) [some (.ref 10), some (.tup [.non, (.tup [qw1]), (.lst [(.tup [qw1])]), (.tup (List.replicate 51 (.tup [qw1]))), (.tup [(.tup [])]), (.tup [(.tup [qw2])]), (.tup [(.tup [qw3])]), (.tup [(.tup [qw3, (.int 10)])]), (.tup [(.tup [qw3, (.int (-1))])]), (.tup [(.tup [qw3, (.bl true)])]), (.tup [(.lst [qw4])]), (.tup [(.tup [qw1, (.int 0)])])]), some (.lst [(.tup [(.int 1), (.tup [])]), (.int 0), (.tup [])]), none, some (.tup [(.tup [(.int 1), (.tup [])]), (.int 0), (.tup [])]), none, none] (Cup c [(.lst []), (.lst [qw0, qw0, qw0]), (.lst [qw0, qw0, qw0, qw0, qw0, qw0]), (.lst [qw0, qw0, qw0, qw0, qw0, qw0, qw0, qw0, qw0]), (.lst (List.replicate 12 qw0)), (.lst (List.replicate 15 qw0)), (.lst (List.replicate 18 qw0)), (.lst (List.replicate 21 qw0)), (.lst [qw0, qw0, qw0, qw0, qw0, qw0, qw0, qw0, qw0, qw0, qw0, qw0, qw0, qw0, qw0, qw0, qw0, qw0, qw0, qw0, qw0, qw5, qw5, qw5, qw5, qw5, qw5, qw5, qw5, qw5, qw5, qw5, qw5]), (.lst [qw0, qw0, qw0, qw0, qw0, qw0, qw0, qw0, qw0, qw0, qw0, qw0, qw0, qw0, qw0, qw0, qw0, qw0, qw0, qw0, qw0, qw5, qw5, qw5, qw5, qw5, qw5, qw5, qw5, qw5, qw5, qw5, qw5, qw5, qw5, qw5, qw5, qw5, qw5, qw5])]) = .ok (.bl false) (Cup c [(.lst []), (.lst [qw0, qw0, qw0]), (.lst [qw0, qw0, qw0, qw0, qw0, qw0]), (.lst [qw0, qw0, qw0, qw0, qw0, qw0, qw0, qw0, qw0]), (.lst (List.replicate 12 qw0)), (.lst (List.replicate 15 qw0)), (.lst (List.replicate 18 qw0)), (.lst (List.replicate 21 qw0)), (.lst [qw0, qw0, qw0, qw0, qw0, qw0, qw0, qw0, qw0, qw0, qw0, qw0, qw0, qw0, qw0, qw0, qw0, qw0, qw0, qw0, qw0, qw5, qw5, qw5, qw5, qw5, qw5, qw5, qw5, qw5, qw5, qw5, qw5]), (.lst [qw0, qw0, qw0, qw0, qw0, qw0, qw0, qw0, qw0, qw0, qw0, qw0, qw0, qw0, qw0, qw0, qw0, qw0, qw0, qw0, qw0, qw5, qw5, qw5, qw5, qw5, qw5, qw5, qw5, qw5, qw5, qw5, qw5, qw5, qw5, qw5, qw5, qw5, qw5, qw5])]) := by kernel_rfl
theorem s_errors_6_3 (c : Cp) (y : D) : evx (cl 9) LL.G {} (.call 20 [(.tup [(.k qw7), (.k (.int 0))])]) [some (.ref 10), some (.tup [.non, (.tup [qw1]), (.lst [(.tup [qw1])]), (.tup (List.replicate 51 (.tup [qw1]))), (.tup [(.tup [])]), (.tup [(.tup [qw2])]), (.tup [(.tup [qw3])]), (.tup [(.tup [qw3, (.int 10)])]), (.tup [(.tup [qw3, (.int (-1))])]), (.tup [(.tup [qw3, (.bl true)])]), (.tup [(.lst [qw4])]), (.tup [(.tup [qw1, (.int 0)])])]), some (.lst [(.tup [(.int 1), (.tup [])]), (.int 0), (.tup [])]), none, some (.tup [(.tup [(.int 1), (.tup [])]), (.int 0), (.tup [])]), none, none] (Cup c [(.lst []), (.lst [qw0, qw0, qw0]), (.lst [qw0, qw0, qw0, qw0, qw0, qw0]), (.lst [qw0, qw0, qw0, qw0, qw0, qw0, qw0, qw0, qw0]), (.lst (List.replicate 12 qw0)), (.lst (List.replicate 15 qw0)), (.lst (List.replicate 18 qw0)), (.lst (List.replicate 21 qw0)), (.lst [qw0, qw0, qw0, qw0, qw0, qw0, qw0, qw0, qw0, qw0, qw0, qw0, qw0, qw0, qw0, qw0, qw0, qw0, qw0, qw0, qw0, qw5, qw5, qw5, qw5, qw5, qw5, qw5, qw5, qw5, qw5, qw5, qw5]), (.lst [qw0, qw0, qw0, qw0, qw0, qw0, qw0, qw0, qw0, qw0, qw0, qw0, qw0, qw0, qw0, qw0, qw0, qw0, qw0, qw0, qw0, qw5, qw5, qw5, qw5, qw5, qw5, qw5, qw5, qw5, qw5, qw5, qw5, qw5, qw5, qw5, qw5, qw5, qw5, qw5])]) = .ok (.bl false) (Cup c [(.lst []), (.lst [qw0, qw0, qw0]), (.lst [qw0, qw0, qw0, qw0, qw0, qw0]), (.lst [qw0, qw0, qw0, qw0, qw0, qw0, qw0, qw0, qw0]), (.lst (List.replicate 12 qw0)), (.lst (List.replicate 15 qw0)), (.lst (List.replicate 18 qw0)), (.lst (List.replicate 21 qw0)), (.lst [qw0, qw0, qw0, qw0, qw0, qw0, qw0, qw0, qw0, qw0, qw0, qw0, qw0, qw0, qw0, qw0, qw0, qw0, qw0, qw0, qw0, qw5, qw5, qw5, qw5, qw5, qw5, qw5, qw5, qw5, qw5, qw5, qw5]), (.lst [qw0, qw0, qw0, qw0, qw0, qw0, qw0, qw0, qw0, qw0, qw0, qw0, qw0, qw0, qw0, qw0, qw0, qw0, qw0, qw0, qw0, qw5, qw5, qw5, qw5, qw5, qw5, qw5, qw5, qw5, qw5, qw5, qw5, qw5, qw5, qw5, qw5, qw5, qw5, qw5])]) := by kernel_rfl
theorem s_errors_6_4 (c : Cp) (y : D) : evx (cl 9) LL.G {} (.call 20 [(.tup [(.k qw1)])]) [some (.ref 10), some (.tup [.non, (.tup [qw1]), (.lst [(.tup [qw1])]), (.tup (List.replicate 51 (.tup [qw1]))), (.tup [(.tup [])]), (.tup [(.tup [qw2])]), (.tup [(.tup [qw3])]), (.tup [(.tup [qw3, (.int 10)])]), (.tup [(.tup [qw3, (.int (-1))])]), (.tup [(.tup [qw3, (.bl true)])]), (.tup [(.lst [qw4])]), (.tup [(.tup [qw1, (.int 0)])])]), some (.lst [(.tup [(.int 1), (.tup [])]), (.int 0), (.tup [])]), none, some (.tup [(.tup [(.int 1), (.tup [])]), (.int 0), (.tup [])]), none, none] (Cup c [(.lst []), (.lst [qw0, qw0, qw0]), (.lst [qw0, qw0, qw0, qw0, qw0, qw0]), (.lst [qw0, qw0, qw0, qw0, qw0, qw0, qw0, qw0, qw0]), (.lst (List.replicate 12 qw0)), (.lst (List.replicate 15 qw0)), (.lst (List.replicate 18 qw0)), (.lst (List.replicate 21 qw0)), (.lst [qw0, qw0, qw0, qw0, qw0, qw0, qw0, qw0, qw0, qw0, qw0, qw0, qw0, qw0, qw0, qw0, qw0, qw0, qw0, qw0, qw0, qw5, qw5, qw5, qw5, qw5, qw5, qw5, qw5, qw5, qw5, qw5, qw5]), (.lst [qw0, qw0, qw0, qw0, qw0, qw0, qw0, qw0, qw0, qw0, qw0, qw0, qw0, qw0, qw0, qw0, qw0, qw0, qw0, qw0, qw0, qw5, qw5, qw5, qw5, qw5, qw5, qw5, qw5, qw5, qw5, qw5, qw5, qw5, qw5, qw5, qw5, qw5, qw5, qw5])]) = .ok (.bl true) (Cup c [(.lst []), (.lst [qw0, qw0, qw0]), (.lst [qw0, qw0, qw0, qw0, qw0, qw0]), (.lst [qw0, qw0, qw0, qw0, qw0, qw0, qw0, qw0, qw0]), (.lst (List.replicate 12 qw0)), (.lst (List.replicate 15 qw0)), (.lst (List.replicate 18 qw0)), (.lst (List.replicate 21 qw0)), (.lst [qw0, qw0, qw0, qw0, qw0, qw0, qw0, qw0, qw0, qw0, qw0, qw0, qw0, qw0, qw0, qw0, qw0, qw0, qw0, qw0, qw0, qw5, qw5, qw5, qw5, qw5, qw5, qw5, qw5, qw5, qw5, qw5, qw5]), (.lst [qw0, qw0, qw0, qw0, qw0, qw0, qw0, qw0, qw0, qw0, qw0, qw0, qw0, qw0, qw0, qw0, qw0, qw0, qw0, qw0, qw0, qw5, qw5, qw5, qw5, qw5, qw5, qw5, qw5, qw5, qw5, qw5, qw5, qw5, qw5, qw5, qw5, qw5, qw5, qw5])]) := by kernel_rfl
theorem s_errors_6_5 (c : Cp) (y : D) : evx (cl 9) LL.G {} (.call 20 [(.k .non)]) [some (.ref 10), some (.tup [.non, (.tup [qw1]), (.lst [(.tup [qw1])]), (.tup (List.replicate 51 (.tup [qw1]))), (.tup [(.tup [])]), (.tup [(.tup [qw2])]), (.tup [(.tup [qw3])]), (.tup [(.tup [qw3, (.int 10)])]), (.tup [(.tup [qw3, (.int (-1))])]), (.tup [(.tup [qw3, (.bl true)])]), (.tup [(.lst [qw4])]), (.tup [(.tup [qw1, (.int 0)])])]), some (.lst [(.tup [(.int 1), (.tup [])]), (.int 0), (.tup [])]), none, some (.tup [(.tup [(.int 1), (.tup [])]), (.int 0), (.tup [])]), none, none] (Cup c [(.lst []), (.lst [qw0, qw0, qw0]), (.lst [qw0, qw0, qw0, qw0, qw0, qw0]), (.lst [qw0, qw0, qw0, qw0, qw0, qw0, qw0, qw0, qw0]), (.lst (List.replicate 12 qw0)), (.lst (List.replicate 15 qw0)), (.lst (List.replicate 18 qw0)), (.lst (List.replicate 21 qw0)), (.lst [qw0, qw0, qw0, qw0, qw0, qw0, qw0, qw0, qw0, qw0, qw0, qw0, qw0, qw0, qw0, qw0, qw0, qw0, qw0, qw0, qw0, qw5, qw5, qw5, qw5, qw5, qw5, qw5, qw5, qw5, qw5, qw5, qw5]), (.lst [qw0, qw0, qw0, qw0, qw0, qw0, qw0, qw0, qw0, qw0, qw0, qw0, qw0, qw0, qw0, qw0, qw0, qw0, qw0, qw0, qw0, qw5, qw5, qw5, qw5, qw5, qw5, qw5, qw5, qw5, qw5, qw5, qw5, qw5, qw5, qw5, qw5, qw5, qw5, qw5])]) = .ok (.bl false) (Cup c [(.lst []), (.lst [qw0, qw0, qw0]), (.lst [qw0, qw0, qw0, qw0, qw0, qw0]), (.lst [qw0, qw0, qw0, qw0, qw0, qw0, qw0, qw0, qw0]), (.lst (List.replicate 12 qw0)), (.lst (List.replicate 15 qw0)), (.lst (List.replicate 18 qw0)), (.lst (List.replicate 21 qw0)), (.lst [qw0, qw0, qw0, qw0, qw0, qw0, qw0, qw0, qw0, qw0, qw0, qw0, qw0, qw0, qw0, qw0, qw0, qw0, qw0, qw0, qw0, qw5, qw5, qw5, qw5, qw5, qw5, qw5, qw5, qw5, qw5, qw5, qw5]), (.lst [qw0, qw0, qw0, qw0, qw0, qw0, qw0, qw0, qw0, qw0, qw0, qw0, qw0, qw0, qw0, qw0, qw0, qw0, qw0, qw0, qw0, qw5, qw5, qw5, qw5, qw5, qw5, qw5, qw5, qw5, qw5, qw5, qw5, qw5, qw5, qw5, qw5, qw5, qw5, qw5])]) := by kernel_rfl
theorem s_errors_6_6 (c : Cp) (y : D) : evx (cl 9) LL.G {} (.call 20 [(.k qw1)]) [some (.ref 10), some (.tup [.non, (.tup [qw1]), (.lst [(.tup [qw1])]), (.tup (List.replicate 51 (.tup [qw1]))), (.tup [(.tup [])]), (.tup [(.tup [qw2])]), (.tup [(.tup [qw3])]), (.tup [(.tup [qw3, (.int 10)])]), (.tup [(.tup [qw3, (.int (-1))])]), (.tup [(.tup [qw3, (.bl true)])]), (.tup [(.lst [qw4])]), (.tup [(.tup [qw1, (.int 0)])])]), some (.lst [(.tup [(.int 1), (.tup [])]), (.int 0), (.tup [])]), none, some (.tup [(.tup [(.int 1), (.tup [])]), (.int 0), (.tup [])]), none, none] (Cup c [(.lst []), (.lst [qw0, qw0, qw0]), (.lst [qw0, qw0, qw0, qw0, qw0, qw0]), (.lst [qw0, qw0, qw0, qw0, qw0, qw0, qw0, qw0, qw0]), (.lst (List.replicate 12 qw0)), (.lst (List.replicate 15 qw0)), (.lst (List.replicate 18 qw0)), (.lst (List.replicate 21 qw0)), (.lst [qw0, qw0, qw0, qw0, qw0, qw0, qw0, qw0, qw0, qw0, qw0, qw0, qw0, qw0, qw0, qw0, qw0, qw0, qw0, qw0, qw0, qw5, qw5, qw5, qw5, qw5, qw5, qw5, qw5, qw5, qw5, qw5, qw5]), (.lst [qw0, qw0, qw0, qw0, qw0, qw0, qw0, qw0, qw0, qw0, qw0, qw0, qw0, qw0, qw0, qw0, qw0, qw0, qw0, qw0, qw0, qw5, qw5, qw5, qw5, qw5, qw5, qw5, qw5, qw5, qw5, qw5, qw5, qw5, qw5, qw5, qw5, qw5, qw5, qw5])]) = .ok (.bl false) (Cup c [(.lst []), (.lst [qw0, qw0, qw0]), (.lst [qw0, qw0, qw0, qw0, qw0, qw0]), (.lst [qw0, qw0, qw0, qw0, qw0, qw0, qw0, qw0, qw0]), (.lst (List.replicate 12 qw0)), (.lst (List.replicate 15 qw0)), (.lst (List.replicate 18 qw0)), (.lst (List.replicate 21 qw0)), (.lst [qw0, qw0, qw0, qw0, qw0, qw0, qw0, qw0, qw0, qw0, qw0, qw0, qw0, qw0, qw0, qw0, qw0, qw0, qw0, qw0, qw0, qw5, qw5, qw5, qw5, qw5, qw5, qw5, qw5, qw5, qw5, qw5, qw5]), (.lst [qw0, qw0, qw0, qw0, qw0, qw0, qw0, qw0, qw0, qw0, qw0, qw0, qw0, qw0, qw0, qw0, qw0, qw0, qw0, qw0, qw0, qw5, qw5, qw5, qw5, qw5, qw5, qw5, qw5, qw5, qw5, qw5, qw5, qw5, qw5, qw5, qw5, qw5, qw5, qw5])]) := by kernel_rfl
theorem s_errors_6 (c : Cp) (y : D) : exx (cl 9) LL.G {} (.asg (.n 3) (.lst [(.call 20 [(.tup [(.k qw3), (.k (.int 9))])]), (.call 20 [(.tup [(.k qw3), (.k (.int 10))])]), (.call 20 [(.tup [(.k qw3), (.k qw6)])]), (.call 20 [(.tup [(.k qw7), (.k (.int 0))])]), (.call 20 [(.tup [(.k qw1)])]), (.call 20 [(.k .non)]), (.call 20 [(.k qw1)])])) [some (.ref 10), some (.tup [.non, (.tup [qw1]), (.lst [(.tup [qw1])]), (.tup (List.replicate 51 (.tup [qw1]))), (.tup [(.tup [])]), (.tup [(.tup [qw2])]), (.tup [(.tup [qw3])]), (.tup [(.tup [qw3, (.int 10)])]), (.tup [(.tup [qw3, (.int (-1))])]), (.tup [(.tup [qw3, (.bl true)])]), (.tup [(.lst [qw4])]), (.tup [(.tup [qw1, (.int 0)])])]), some (.lst [(.tup [(.int 1), (.tup [])]), (.int 0), (.tup [])]), none, some (.tup [(.tup [(.int 1), (.tup [])]), (.int 0), (.tup [])]), none, none] (Cup c [(.lst []), (.lst [qw0, qw0, qw0]), (.lst [qw0, qw0, qw0, qw0, qw0, qw0]), (.lst [qw0, qw0, qw0, qw0, qw0, qw0, qw0, qw0, qw0]), (.lst (List.replicate 12 qw0)), (.lst (List.replicate 15 qw0)), (.lst (List.replicate 18 qw0)), (.lst (List.replicate 21 qw0)), (.lst [qw0, qw0, qw0, qw0, qw0, qw0, qw0, qw0, qw0, qw0, qw0, qw0, qw0, qw0, qw0, qw0, qw0, qw0, qw0, qw0, qw0, qw5, qw5, qw5, qw5, qw5, qw5, qw5, qw5, qw5, qw5, qw5, qw5]), (.lst [qw0, qw0, qw0, qw0, qw0, qw0, qw0, qw0, qw0, qw0, qw0, qw0, qw0, qw0, qw0, qw0, qw0, qw0, qw0, qw0, qw0, qw5, qw5, qw5, qw5, qw5, qw5, qw5, qw5, qw5, qw5, qw5, qw5, qw5, qw5, qw5, qw5, qw5, qw5, qw5])]) = .nx [some (.ref 10), some (.tup [.non, (.tup [qw1]), (.lst [(.tup [qw1])]), (.tup (List.replicate 51 (.tup [qw1]))), (.tup [(.tup [])]), (.tup [(.tup [qw2])]), (.tup [(.tup [qw3])]), (.tup [(.tup [qw3, (.int 10)])]), (.tup [(.tup [qw3, (.int (-1))])]), (.tup [(.tup [qw3, (.bl true)])]), (.tup [(.lst [qw4])]), (.tup [(.tup [qw1, (.int 0)])])]), some (.lst [(.tup [(.int 1), (.tup [])]), (.int 0), (.tup [])]), some (.lst [(.bl true), (.bl false), (.bl false), (.bl false), (.bl true), (.bl false), (.bl false)]), some (.tup [(.tup [(.int 1), (.tup [])]), (.int 0), (.tup [])]), none, none] (Cup c [(.lst []), (.lst [qw0, qw0, qw0]), (.lst [qw0, qw0, qw0, qw0, qw0, qw0]), (.lst [qw0, qw0, qw0, qw0, qw0, qw0, qw0, qw0, qw0]), (.lst (List.replicate 12 qw0)), (.lst (List.replicate 15 qw0)), (.lst (List.replicate 18 qw0)), (.lst (List.replicate 21 qw0)), (.lst [qw0, qw0, qw0, qw0, qw0, qw0, qw0, qw0, qw0, qw0, qw0, qw0, qw0, qw0, qw0, qw0, qw0, qw0, qw0, qw0, qw0, qw5, qw5, qw5, qw5, qw5, qw5, qw5, qw5, qw5, qw5, qw5, qw5]), (.lst [qw0, qw0, qw0, qw0, qw0, qw0, qw0, qw0, qw0, qw0, qw0, qw0, qw0, qw0, qw0, qw0, qw0, qw0, qw0, qw0, qw0, qw5, qw5, qw5, qw5, qw5, qw5, qw5, qw5, qw5, qw5, qw5, qw5, qw5, qw5, qw5, qw5, qw5, qw5, qw5])]) := asg_cl (lst_cl (evs_nx (s_errors_6_0 c y) (evs_nx (s_errors_6_1 c y) (evs_nx (s_errors_6_2 c y) (evs_nx (s_errors_6_3 c y) (evs_nx (s_errors_6_4 c y) (evs_nx (s_errors_6_5 c y) (evs_nx (s_errors_6_6 c y) evs_nil0))))))) (by decide +kernel)) (by kernel_rfl)
theorem s_errors_7_0 (c : Cp) (y : D) : evx (cl 9) LL.G {} (.call 21 [(.tup [])]) [some (.ref 10), some (.tup [.non, (.tup [qw1]), (.lst [(.tup [qw1])]), (.tup (List.replicate 51 (.tup [qw1]))), (.tup [(.tup [])]), (.tup [(.tup [qw2])]), (.tup [(.tup [qw3])]), (.tup [(.tup [qw3, (.int 10)])]), (.tup [(.tup [qw3, (.int (-1))])]), (.tup [(.tup [qw3, (.bl true)])]), (.tup [(.lst [qw4])]), (.tup [(.tup [qw1, (.int 0)])])]), some (.lst [(.tup [(.int 1), (.tup [])]), (.int 0), (.tup [])]), some (.lst [(.bl true), (.bl false), (.bl false), (.bl false), (.bl true), (.bl false), (.bl false)]), some (.tup [(.tup [(.int 1), (.tup [])]), (.int 0), (.tup [])]), none, none] (Cup c [(.lst []), (.lst [qw0, qw0, qw0]), (.lst [qw0, qw0, qw0, qw0, qw0, qw0]), (.lst [qw0, qw0, qw0, qw0, qw0, qw0, qw0, qw0, qw0]), (.lst (List.replicate 12 qw0)), (.lst (List.replicate 15 qw0)), (.lst (List.replicate 18 qw0)), (.lst (List.replicate 21 qw0)), (.lst [qw0, qw0, qw0, qw0, qw0, qw0, qw0, qw0, qw0, qw0, qw0, qw0, qw0, qw0, qw0, qw0, qw0, qw0, qw0, qw0, qw0, qw5, qw5, qw5, qw5, qw5, qw5, qw5, qw5, qw5, qw5, qw5, qw5]), (.lst [qw0, qw0, qw0, qw0, qw0, qw0, qw0, qw0, qw0, qw0, qw0, qw0, qw0, qw0, qw0, qw0, qw0, qw0, qw0, qw0, qw0, qw5, qw5, qw5, qw5, qw5, qw5, qw5, qw5, qw5, qw5, qw5, qw5, qw5, qw5, qw5, qw5, qw5, qw5, qw5])]) = .ok (.bl true) (Cup c [(.lst []), (.lst [qw0, qw0, qw0]), (.lst [qw0, qw0, qw0, qw0, qw0, qw0]), (.lst [qw0, qw0, qw0, qw0, qw0, qw0, qw0, qw0, qw0]), (.lst (List.replicate 12 qw0)), (.lst (List.replicate 15 qw0)), (.lst (List.replicate 18 qw0)), (.lst (List.replicate 21 qw0)), (.lst [qw0, qw0, qw0, qw0, qw0, qw0, qw0, qw0, qw0, qw0, qw0, qw0, qw0, qw0, qw0, qw0, qw0, qw0, qw0, qw0, qw0, qw5, qw5, qw5, qw5, qw5, qw5, qw5, qw5, qw5, qw5, qw5, qw5]), (.lst [qw0, qw0, qw0, qw0, qw0, qw0, qw0, qw0, qw0, qw0, qw0, qw0, qw0, qw0, qw0, qw0, qw0, qw0, qw0, qw0, qw0, qw5, qw5, qw5, qw5, qw5, qw5, qw5, qw5, qw5, qw5, qw5, qw5, qw5, qw5, qw5, qw5, qw5, qw5, qw5])]) := by kernel_rfl
theorem s_errors_7_1 (c : Cp) (y : D) : evx (cl 9) LL.G {} (.call 21 [(.bin .mul (.tup [(.tup [(.k qw1)])]) (.k (.int 50)))]) [some (.ref 10), some (.tup [.non, (.tup [qw1]), (.lst [(.tup [qw1])]), (.tup (List.replicate 51 (.tup [qw1]))), (.tup [(.tup [])]), (.tup [(.tup [qw2])]), (.tup [(.tup [qw3])]), (.tup [(.tup [qw3, (.int 10)])]), (.tup [(.tup [qw3, (.int (-1))])]), (.tup [(.tup [qw3, (.bl true)])]), (.tup [(.lst [qw4])]), (.tup [(.tup [qw1, (.int 0)])])]), some (.lst [(.tup [(.int 1), (.tup [])]), (.int 0), (.tup [])]), some (.lst [(.bl true), (.bl false), (.bl false), (.bl false), (.bl true), (.bl false), (.bl false)]), some (.tup [(.tup [(.int 1), (.tup [])]), (.int 0), (.tup [])]), none, none] (Cup c [(.lst []), (.lst [qw0, qw0, qw0]), (.lst [qw0, qw0, qw0, qw0, qw0, qw0]), (.lst [qw0, qw0, qw0, qw0, qw0, qw0, qw0, qw0, qw0]), (.lst (List.replicate 12 qw0)), (.lst (List.replicate 15 qw0)), (.lst (List.replicate 18 qw0)), (.lst (List.replicate 21 qw0)), (.lst [qw0, qw0, qw0, qw0, qw0, qw0, qw0, qw0, qw0, qw0, qw0, qw0, qw0, qw0, qw0, qw0, qw0, qw0, qw0, qw0, qw0, qw5, qw5, qw5, qw5, qw5, qw5, qw5, qw5, qw5, qw5, qw5, qw5]), (.lst [qw0, qw0, qw0, qw0, qw0, qw0, qw0, qw0, qw0, qw0, qw0, qw0, qw0, qw0, qw0, qw0, qw0, qw0, qw0, qw0, qw0, qw5, qw5, qw5, qw5, qw5, qw5, qw5, qw5, qw5, qw5, qw5, qw5, qw5, qw5, qw5, qw5, qw5, qw5, qw5])]) = .ok (.bl true) (Cup c [(.lst []), (.lst [qw0, qw0, qw0]), (.lst [qw0, qw0, qw0, qw0, qw0, qw0]), (.lst [qw0, qw0, qw0, qw0, qw0, qw0, qw0, qw0, qw0]), (.lst (List.replicate 12 qw0)), (.lst (List.replicate 15 qw0)), (.lst (List.replicate 18 qw0)), (.lst (List.replicate 21 qw0)), (.lst [qw0, qw0, qw0, qw0, qw0, qw0, qw0, qw0, qw0, qw0, qw0, qw0, qw0, qw0, qw0, qw0, qw0, qw0, qw0, qw0, qw0, qw5, qw5, qw5, qw5, qw5, qw5, qw5, qw5, qw5, qw5, qw5, qw5]), (.lst [qw0, qw0, qw0, qw0, qw0, qw0, qw0, qw0, qw0, qw0, qw0, qw0, qw0, qw0, qw0, qw0, qw0, qw0, qw0, qw0, qw0, qw5, qw5, qw5, qw5, qw5, qw5, qw5, qw5, qw5, qw5, qw5, qw5, qw5, qw5, qw5, qw5, qw5, qw5, qw5])]) := by kernel_rfl
theorem s_errors_7_2 (c : Cp) (y : D) : evx (cl 9) LL.G {} (.call 21 [(.bin .mul (.tup [(.tup [(.k qw1)])]) (.k (.int 51)))]) [some (.ref 10), some (.tup [.non, (.tup [qw1]), (.lst [(.tup [qw1])]), (.tup (List.replicate 51 (.tup [qw1]))), (.tup [(.tup [])]), (.tup [(.tup [qw2])]), (.tup [(.tup [qw3])]), (.tup [(.tup [qw3, (.int 10)])]), (.tup [(.tup [qw3, (.int (-1))])]), (.tup [(.tup [qw3, (.bl true)])]), (.tup [(.lst [qw4])]), (.tup [(.tup [qw1, (.int 0)])])]), some (.lst [(.tup [(.int 1), (.tup [])]), (.int 0), (.tup [])]), some (.lst [(.bl true), (.bl false), (.bl false), (.bl false), (.bl true), (.bl false), (.bl false)]), some (.tup [(.tup [(.int 1), (.tup [])]), (.int 0), (.tup [])]), none, none] (Cup c [(.lst []), (.lst [qw0, qw0, qw0]), (.lst [qw0, qw0, qw0, qw0, qw0, qw0]), (.lst [qw0, qw0, qw0, qw0, qw0, qw0, qw0, qw0, qw0]), (.lst (List.replicate 12 qw0)), (.lst (List.replicate 15 qw0)), (.lst (List.replicate 18 qw0)), (.lst (List.replicate 21 qw0)), (.lst [qw0, qw0, qw0, qw0, qw0, qw0, qw0, qw0, qw0, qw0, qw0, qw0, qw0, qw0, qw0, qw0, qw0, qw0, qw0, qw0, qw0, qw5, qw5, qw5, qw5, qw5, qw5, qw5, qw5, qw5, qw5, qw5, qw5]), (.lst [qw0, qw0, qw0, qw0, qw0, qw0, qw0, qw0, qw0, qw0, qw0, qw0, qw0, qw0, qw0, qw0, qw0, qw0, qw0, qw0, qw0, qw5, qw5, qw5, qw5, qw5, qw5, qw5, qw5, qw5, qw5, qw5, qw5, qw5, qw5, qw5, qw5, qw5, qw5, qw5])]) = .ok (.bl false) (Cup c [(.lst []), (.lst [qw0, qw0, qw0]), (.lst [qw0, qw0, qw0, qw0, qw0, qw0]), (.lst [qw0, qw0, qw0, qw0, qw0, qw0, qw0, qw0, qw0]), (.lst (List.replicate 12 qw0)), (.lst (List.replicate 15 qw0)), (.lst (List.replicate 18 qw0)), (.lst (List.replicate 21 qw0)), (.lst [qw0, qw0, qw0, qw0, qw0, qw0, qw0, qw0, qw0, qw0, qw0, qw0, qw0, qw0, qw0, qw0, qw0, qw0, qw0, qw0, qw0, qw5, qw5, qw5, qw5, qw5, qw5, qw5, qw5, qw5, qw5, qw5, qw5]), (.lst [qw0, qw0, qw0, qw0, qw0, qw0, qw0, qw0, qw0, qw0, qw0, qw0, qw0, qw0, qw0, qw0, qw0, qw0, qw0, qw0, qw0, qw5, qw5, qw5, qw5, qw5, qw5, qw5, qw5, qw5, qw5, qw5, qw5, qw5, qw5, qw5, qw5, qw5, qw5, qw5])]) := by kernel_rfl
theorem s_errors_7_3 (c : Cp) (y : D) : evx (cl 9) LL.G {} (.call 21 [(.lst [(.tup [(.k qw1)])])]) [some (.ref 10), some (.tup [.non, (.tup [qw1]), (.lst [(.tup [qw1])]), (.tup (List.replicate 51 (.tup [qw1]))), (.tup [(.tup [])]), (.tup [(.tup [qw2])]), (.tup [(.tup [qw3])]), (.tup [(.tup [qw3, (.int 10)])]), (.tup [(.tup [qw3, (.int (-1))])]), (.tup [(.tup [qw3, (.bl true)])]), (.tup [(.lst [qw4])]), (.tup [(.tup [qw1, (.int 0)])])]), some (.lst [(.tup [(.int 1), (.tup [])]), (.int 0), (.tup [])]), some (.lst [(.bl true), (.bl false), (.bl false), (.bl false), (.bl true), (.bl false), (.bl false)]), some (.tup [(.tup [(.int 1), (.tup [])]), (.int 0), (.tup [])]), none, none] (Cup c [(.lst []), (.lst [qw0, qw0, qw0]), (.lst [qw0, qw0, qw0, qw0, qw0, qw0]), (.lst [qw0, qw0, qw0, qw0, qw0, qw0, qw0, qw0, qw0]), (.lst (List.replicate 12 qw0)), (.lst (List.replicate 15 qw0)), (.lst (List.replicate 18 qw0)), (.lst (List.replicate 21 qw0)), (.lst [qw0, qw0, qw0, qw0, qw0, qw0, qw0, qw0, qw0, qw0, qw0, qw0, qw0, qw0, qw0, qw0, qw0, qw0, qw0, qw0, qw0, qw5, qw5, qw5, qw5, qw5, qw5, qw5, qw5, qw5, qw5, qw5, qw5]), (.lst [qw0, qw0, qw0, qw0, qw0, qw0, qw0, qw0, qw0, qw0, qw0, qw0, qw0, qw0, qw0, qw0, qw0, qw0, qw0, qw0, qw0, qw5, qw5, qw5, qw5, qw5, qw5, qw5, qw5, qw5, qw5, qw5, qw5, qw5, qw5, qw5, qw5, qw5, qw5, qw5])]) = .ok (.bl false) (Cup c [(.lst []), (.lst [qw0, qw0, qw0]), (.lst [qw0, qw0, qw0, qw0, qw0, qw0]), (.lst [qw0, qw0, qw0, qw0, qw0, qw0, qw0, qw0, qw0]), (.lst (List.replicate 12 qw0)), (.lst (List.replicate 15 qw0)), (.lst (List.replicate 18 qw0)), (.lst (List.replicate 21 qw0)), (.lst [qw0, qw0, qw0, qw0, qw0, qw0, qw0, qw0, qw0, qw0, qw0, qw0, qw0, qw0, qw0, qw0, qw0, qw0, qw0, qw0, qw0, qw5, qw5, qw5, qw5, qw5, qw5, qw5, qw5, qw5, qw5, qw5, qw5]), (.lst [qw0, qw0, qw0, qw0, qw0, qw0, qw0, qw0, qw0, qw0, qw0, qw0, qw0, qw0, qw0, qw0, qw0, qw0, qw0, qw0, qw0, qw5, qw5, qw5, qw5, qw5, qw5, qw5, qw5, qw5, qw5, qw5, qw5, qw5, qw5, qw5, qw5, qw5, qw5, qw5])]) := by kernel_rfl
theorem s_errors_7_4 (c : Cp) (y : D) : evx (cl 9) LL.G {} (.call 21 [(.k .non)]) [some (.ref 10), some (.tup [.non, (.tup [qw1]), (.lst [(.tup [qw1])]), (.tup (List.replicate 51 (.tup [qw1]))), (.tup [(.tup [])]), (.tup [(.tup [qw2])]), (.tup [(.tup [qw3])]), (.tup [(.tup [qw3, (.int 10)])]), (.tup [(.tup [qw3, (.int (-1))])]), (.tup [(.tup [qw3, (.bl true)])]), (.tup [(.lst [qw4])]), (.tup [(.tup [qw1, (.int 0)])])]), some (.lst [(.tup [(.int 1), (.tup [])]), (.int 0), (.tup [])]), some (.lst [(.bl true), (.bl false), (.bl false), (.bl false), (.bl true), (.bl false), (.bl false)]), some (.tup [(.tup [(.int 1), (.tup [])]), (.int 0), (.tup [])]), none, none] (Cup c [(.lst []), (.lst [qw0, qw0, qw0]), (.lst [qw0, qw0, qw0, qw0, qw0, qw0]), (.lst [qw0, qw0, qw0, qw0, qw0, qw0, qw0, qw0, qw0]), (.lst (List.replicate 12 qw0)), (.lst (List.replicate 15 qw0)), (.lst (List.replicate 18 qw0)), (.lst (List.replicate 21 qw0)), (.lst [qw0, qw0, qw0, qw0, qw0, qw0, qw0, qw0, qw0, qw0, qw0, qw0, qw0, qw0, qw0, qw0, qw0, qw0, qw0, qw0, qw0, qw5, qw5, qw5, qw5, qw5, qw5, qw5, qw5, qw5, qw5, qw5, qw5]), (.lst [qw0, qw0, qw0, qw0, qw0, qw0, qw0, qw0, qw0, qw0, qw0, qw0, qw0, qw0, qw0, qw0, qw0, qw0, qw0, qw0, qw0, qw5, qw5, qw5, qw5, qw5, qw5, qw5, qw5, qw5, qw5, qw5, qw5, qw5, qw5, qw5, qw5, qw5, qw5, qw5])]) = .ok (.bl false) (Cup c [(.lst []), (.lst [qw0, qw0, qw0]), (.lst [qw0, qw0, qw0, qw0, qw0, qw0]), (.lst [qw0, qw0, qw0, qw0, qw0, qw0, qw0, qw0, qw0]), (.lst (List.replicate 12 qw0)), (.lst (List.replicate 15 qw0)), (.lst (List.replicate 18 qw0)), (.lst (List.replicate 21 qw0)), (.lst [qw0, qw0, qw0, qw0, qw0, qw0, qw0, qw0, qw0, qw0, qw0, qw0, qw0, qw0, qw0, qw0, qw0, qw0, qw0, qw0, qw0, qw5, qw5, qw5, qw5, qw5, qw5, qw5, qw5, qw5, qw5, qw5, qw5]), (.lst [qw0, qw0, qw0, qw0, qw0, qw0, qw0, qw0, qw0, qw0, qw0, qw0, qw0, qw0, qw0, qw0, qw0, qw0, qw0, qw0, qw0, qw5, qw5, qw5, qw5, qw5, qw5, qw5, qw5, qw5, qw5, qw5, qw5, qw5, qw5, qw5, qw5, qw5, qw5, qw5])]) := by kernel_rfl
theorem s_errors_7 (c : Cp) (y : D) : exx (cl 9) LL.G {} (.asg (.n 3) (.bin .add (.v 3) (.lst [(.call 21 [(.tup [])]), (.call 21 [(.bin .mul (.tup [(.tup [(.k qw1)])]) (.k (.int 50)))]), (.call 21 [(.bin .mul (.tup [(.tup [(.k qw1)])]) (.k (.int 51)))]), (.call 21 [(.lst [(.tup [(.k qw1)])])]), (.call 21 [(.k .non)])]))) [some (.ref 10), some (.tup [.non, (.tup [qw1]), (.lst [(.tup [qw1])]), (.tup (List.replicate 51 (.tup [qw1]))), (.tup [(.tup [])]), (.tup [(.tup [qw2])]), (.tup [(.tup [qw3])]), (.tup [(.tup [qw3, (.int 10)])]), (.tup [(.tup [qw3, (.int (-1))])]), (.tup [(.tup [qw3, (.bl true)])]), (.tup [(.lst [qw4])]), (.tup [(.tup [qw1, (.int 0)])])]), some (.lst [(.tup [(.int 1), (.tup [])]), (.int 0), (.tup [])]), some (.lst [(.bl true), (.bl false), (.bl false), (.bl false), (.bl true), (.bl false), (.bl false)]), some (.tup [(.tup [(.int 1), (.tup [])]), (.int 0), (.tup [])]), none, none] (Cup c [(.lst []), (.lst [qw0, qw0, qw0]), (.lst [qw0, qw0, qw0, qw0, qw0, qw0]), (.lst [qw0, qw0, qw0, qw0, qw0, qw0, qw0, qw0, qw0]), (.lst (List.replicate 12 qw0)), (.lst (List.replicate 15 qw0)), (.lst (List.replicate 18 qw0)), (.lst (List.replicate 21 qw0)), (.lst [qw0, qw0, qw0, qw0, qw0, qw0, qw0, qw0, qw0, qw0, qw0, qw0, qw0, qw0, qw0, qw0, qw0, qw0, qw0, qw0, qw0, qw5, qw5, qw5, qw5, qw5, qw5, qw5, qw5, qw5, qw5, qw5, qw5]), (.lst [qw0, qw0, qw0, qw0, qw0, qw0, qw0, qw0, qw0, qw0, qw0, qw0, qw0, qw0, qw0, qw0, qw0, qw0, qw0, qw0, qw0, qw5, qw5, qw5, qw5, qw5, qw5, qw5, qw5, qw5, qw5, qw5, qw5, qw5, qw5, qw5, qw5, qw5, qw5, qw5])]) = .nx [some (.ref 10), some (.tup [.non, (.tup [qw1]), (.lst [(.tup [qw1])]), (.tup (List.replicate 51 (.tup [qw1]))), (.tup [(.tup [])]), (.tup [(.tup [qw2])]), (.tup [(.tup [qw3])]), (.tup [(.tup [qw3, (.int 10)])]), (.tup [(.tup [qw3, (.int (-1))])]), (.tup [(.tup [qw3, (.bl true)])]), (.tup [(.lst [qw4])]), (.tup [(.tup [qw1, (.int 0)])])]), some (.lst [(.tup [(.int 1), (.tup [])]), (.int 0), (.tup [])]), some (.lst [(.bl true), (.bl false), (.bl false), (.bl false), (.bl true), (.bl false), (.bl false), (.bl true), (.bl true), (.bl false), (.bl false), (.bl false)]), some (.tup [(.tup [(.int 1), (.tup [])]), (.int 0), (.tup [])]), none, none] (Cup c [(.lst []), (.lst [qw0, qw0, qw0]), (.lst [qw0, qw0, qw0, qw0, qw0, qw0]), (.lst [qw0, qw0, qw0, qw0, qw0, qw0, qw0, qw0, qw0]), (.lst (List.replicate 12 qw0)), (.lst (List.replicate 15 qw0)), (.lst (List.replicate 18 qw0)), (.lst (List.replicate 21 qw0)), (.lst [qw0, qw0, qw0, qw0, qw0, qw0, qw0, qw0, qw0, qw0, qw0, qw0, qw0, qw0, qw0, qw0, qw0, qw0, qw0, qw0, qw0, qw5, qw5, qw5, qw5, qw5, qw5, qw5, qw5, qw5, qw5, qw5, qw5]), (.lst [qw0, qw0, qw0, qw0, qw0, qw0, qw0, qw0, qw0, qw0, qw0, qw0, qw0, qw0, qw0, qw0, qw0, qw0, qw0, qw0, qw0, qw5, qw5, qw5, qw5, qw5, qw5, qw5, qw5, qw5, qw5, qw5, qw5, qw5, qw5, qw5, qw5, qw5, qw5, qw5])]) := asg_cl (d := (.lst [(.bl true), (.bl false), (.bl false), (.bl false), (.bl true), (.bl false), (.bl false), (.bl true), (.bl true), (.bl false), (.bl false), (.bl false)])) (bin_cl (v_cl rfl) (lst_cl (evs_nx (s_errors_7_0 c y) (evs_nx (s_errors_7_1 c y) (evs_nx (s_errors_7_2 c y) (evs_nx (s_errors_7_3 c y) (evs_nx (s_errors_7_4 c y) evs_nil0))))) (by decide +kernel)) (by kernel_rfl)) (by kernel_rfl)
theorem s_errors_8 (c : Cp) (y : D) : exx (cl 9) LL.G {} (.ret (some (.call 29 [(.v 3), (.lst [(.k (.bl true)), (.k (.bl false)), (.k (.bl false)), (.k (.bl false)), (.k (.bl true)), (.k (.bl false)), (.k (.bl false)), (.k (.bl true)), (.k (.bl true)), (.k (.bl false)), (.k (.bl false)), (.k (.bl false))])]))) [some (.ref 10), some (.tup [.non, (.tup [qw1]), (.lst [(.tup [qw1])]), (.tup (List.replicate 51 (.tup [qw1]))), (.tup [(.tup [])]), (.tup [(.tup [qw2])]), (.tup [(.tup [qw3])]), (.tup [(.tup [qw3, (.int 10)])]), (.tup [(.tup [qw3, (.int (-1))])]), (.tup [(.tup [qw3, (.bl true)])]), (.tup [(.lst [qw4])]), (.tup [(.tup [qw1, (.int 0)])])]), some (.lst [(.tup [(.int 1), (.tup [])]), (.int 0), (.tup [])]), some (.lst [(.bl true), (.bl false), (.bl false), (.bl false), (.bl true), (.bl false), (.bl false), (.bl true), (.bl true), (.bl false), (.bl false), (.bl false)]), some (.tup [(.tup [(.int 1), (.tup [])]), (.int 0), (.tup [])]), none, none] (Cup c [(.lst []), (.lst [qw0, qw0, qw0]), (.lst [qw0, qw0, qw0, qw0, qw0, qw0]), (.lst [qw0, qw0, qw0, qw0, qw0, qw0, qw0, qw0, qw0]), (.lst (List.replicate 12 qw0)), (.lst (List.replicate 15 qw0)), (.lst (List.replicate 18 qw0)), (.lst (List.replicate 21 qw0)), (.lst [qw0, qw0, qw0, qw0, qw0, qw0, qw0, qw0, qw0, qw0, qw0, qw0, qw0, qw0, qw0, qw0, qw0, qw0, qw0, qw0, qw0, qw5, qw5, qw5, qw5, qw5, qw5, qw5, qw5, qw5, qw5, qw5, qw5]), (.lst [qw0, qw0, qw0, qw0, qw0, qw0, qw0, qw0, qw0, qw0, qw0, qw0, qw0, qw0, qw0, qw0, qw0, qw0, qw0, qw0, qw0, qw5, qw5, qw5, qw5, qw5, qw5, qw5, qw5, qw5, qw5, qw5, qw5, qw5, qw5, qw5, qw5, qw5, qw5, qw5])]) = .rt (.bl true) (Cup c [(.lst []), (.lst [qw0, qw0, qw0]), (.lst [qw0, qw0, qw0, qw0, qw0, qw0]), (.lst [qw0, qw0, qw0, qw0, qw0, qw0, qw0, qw0, qw0]), (.lst (List.replicate 12 qw0)), (.lst (List.replicate 15 qw0)), (.lst (List.replicate 18 qw0)), (.lst (List.replicate 21 qw0)), (.lst [qw0, qw0, qw0, qw0, qw0, qw0, qw0, qw0, qw0, qw0, qw0, qw0, qw0, qw0, qw0, qw0, qw0, qw0, qw0, qw0, qw0, qw5, qw5, qw5, qw5, qw5, qw5, qw5, qw5, qw5, qw5, qw5, qw5]), (.lst [qw0, qw0, qw0, qw0, qw0, qw0, qw0, qw0, qw0, qw0, qw0, qw0, qw0, qw0, qw0, qw0, qw0, qw0, qw0, qw0, qw0, qw5, qw5, qw5, qw5, qw5, qw5, qw5, qw5, qw5, qw5, qw5, qw5, qw5, qw5, qw5, qw5, qw5, qw5, qw5])]) := by kernel_rfl
theorem s_errors (c : Cp) (y : D) : (cl 10).ca 38 [] (Cup c []) = .ok (.bl true) (Cup c []) := by
  rw [ca_x (f := b38) (δ := [none, none, none, none, none, none, none]) rfl (by decide +kernel) (by decide +kernel) rfl rfl]
  rw [show exs (exx (LL.cl 9) LL.G {}) b38.body _ _ = _ from (x_nx (s_errors_0 c y) (x_nx (s_errors_1 c y) (x_nx (s_errors_2 c y) (x_nx (s_errors_3 c y) (x_nx (s_errors_4 c y) (x_nx (s_errors_5 c y) (x_nx (s_errors_6 c y) (x_nx (s_errors_7 c y) (x_rt (s_errors_8 c y))))))))))]
  kernel_rfl
theorem s_told_1 (c : Cp) (y : D) : exx (cl 10) LL.G {} (.asg (.t [(.n 2), (.n 3)]) (.tup [(.tup [(.tup [(.k (.int 2)), (.tup [])]), (.k (.int 2)), (.tup [(.tup [(.k (.int 0)), (.k (.int 1))]), (.tup [(.k (.int 1)), (.k (.int 0))])])]), (.tup [(.tup [(.k (.int 2)), (.tup [])]), (.k (.int 2)), (.tup [])])])) [some y, some (.ref 0), none, none, none, none, none, none] (Cup c []) = .nx [some y, some (.ref 0), some (.tup [(.tup [(.int 2), (.tup [])]), (.int 2), (.tup [(.tup [(.int 0), (.int 1)]), (.tup [(.int 1), (.int 0)])])]), some (.tup [(.tup [(.int 2), (.tup [])]), (.int 2), (.tup [])]), none, none, none, none] (Cup c []) := by kernel_rfl
theorem s_told_2_0 (c : Cp) (y : D) : evx (cl 10) LL.G {} (.call 22 [(.v 2), (.tup [(.tup [(.k qw1)]), (.tup [(.k qw4)]), (.tup [(.k qw3), (.k (.int 0))])])]) [some y, some (.ref 0), some (.tup [(.tup [(.int 2), (.tup [])]), (.int 2), (.tup [(.tup [(.int 0), (.int 1)]), (.tup [(.int 1), (.int 0)])])]), some (.tup [(.tup [(.int 2), (.tup [])]), (.int 2), (.tup [])]), none, none, none, none] (Cup c []) = .ok .non (Cup c []) := by kernel_rfl
theorem s_told_2_1 (c : Cp) (y : D) : evx (cl 10) LL.G {} (.call 22 [(.v 2), (.tup [(.tup [(.k qw8)])])]) [some y, some (.ref 0), some (.tup [(.tup [(.int 2), (.tup [])]), (.int 2), (.tup [(.tup [(.int 0), (.int 1)]), (.tup [(.int 1), (.int 0)])])]), some (.tup [(.tup [(.int 2), (.tup [])]), (.int 2), (.tup [])]), none, none, none, none] (Cup c []) = .ok (.tup [(.int 0), qw9, (.tup [qw4])]) (Cup c []) := by kernel_rfl
theorem s_told_2_2 (c : Cp) (y : D) : evx (cl 10) LL.G {} (.call 22 [(.v 2), (.tup [(.tup [(.k qw4)]), (.tup [(.k qw4)])])]) [some y, some (.ref 0), some (.tup [(.tup [(.int 2), (.tup [])]), (.int 2), (.tup [(.tup [(.int 0), (.int 1)]), (.tup [(.int 1), (.int 0)])])]), some (.tup [(.tup [(.int 2), (.tup [])]), (.int 2), (.tup [])]), none, none, none, none] (Cup c []) = .ok (.tup [(.int 1), qw10]) (Cup c []) := by kernel_rfl
theorem s_told_2_3 (c : Cp) (y : D) : evx (cl 10) LL.G {} (.call 22 [(.v 2), (.tup [(.tup [(.k qw3), (.k (.int 2))])])]) [some y, some (.ref 0), some (.tup [(.tup [(.int 2), (.tup [])]), (.int 2), (.tup [(.tup [(.int 0), (.int 1)]), (.tup [(.int 1), (.int 0)])])]), some (.tup [(.tup [(.int 2), (.tup [])]), (.int 2), (.tup [])]), none, none, none, none] (Cup c []) = .ok (.tup [(.int 0), qw11]) (Cup c []) := by kernel_rfl
theorem s_told_2_4 (c : Cp) (y : D) : evx (cl 10) LL.G {} (.call 24 [(.v 2), (.tup [(.k qw12)])]) [some y, some (.ref 0), some (.tup [(.tup [(.int 2), (.tup [])]), (.int 2), (.tup [(.tup [(.int 0), (.int 1)]), (.tup [(.int 1), (.int 0)])])]), some (.tup [(.tup [(.int 2), (.tup [])]), (.int 2), (.tup [])]), none, none, none, none] (Cup c []) = .ok (.tup [(.tup [qw4]), (.tup [qw12])]) (Cup c []) := by kernel_rfl
theorem s_told_2 (c : Cp) (y : D) : exx (cl 10) LL.G {} (.asg (.n 4) (.lst [(.call 22 [(.v 2), (.tup [(.tup [(.k qw1)]), (.tup [(.k qw4)]), (.tup [(.k qw3), (.k (.int 0))])])]), (.call 22 [(.v 2), (.tup [(.tup [(.k qw8)])])]), (.call 22 [(.v 2), (.tup [(.tup [(.k qw4)]), (.tup [(.k qw4)])])]), (.call 22 [(.v 2), (.tup [(.tup [(.k qw3), (.k (.int 2))])])]), (.call 24 [(.v 2), (.tup [(.k qw12)])])])) [some y, some (.ref 0), some (.tup [(.tup [(.int 2), (.tup [])]), (.int 2), (.tup [(.tup [(.int 0), (.int 1)]), (.tup [(.int 1), (.int 0)])])]), some (.tup [(.tup [(.int 2), (.tup [])]), (.int 2), (.tup [])]), none, none, none, none] (Cup c []) = .nx [some y, some (.ref 0), some (.tup [(.tup [(.int 2), (.tup [])]), (.int 2), (.tup [(.tup [(.int 0), (.int 1)]), (.tup [(.int 1), (.int 0)])])]), some (.tup [(.tup [(.int 2), (.tup [])]), (.int 2), (.tup [])]), some (.lst [.non, (.tup [(.int 0), qw9, (.tup [qw4])]), (.tup [(.int 1), qw10]), (.tup [(.int 0), qw11]), (.tup [(.tup [qw4]), (.tup [qw12])])]), none, none, none] (Cup c []) := asg_cl (lst_cl (evs_nx (s_told_2_0 c y) (evs_nx (s_told_2_1 c y) (evs_nx (s_told_2_2 c y) (evs_nx (s_told_2_3 c y) (evs_nx (s_told_2_4 c y) evs_nil0))))) (by decide +kernel)) (by kernel_rfl)
theorem s_told_3_0 (c : Cp) (y : D) : evx (cl 10) LL.G {} (.k .non) [some y, some (.ref 0), some (.tup [(.tup [(.int 2), (.tup [])]), (.int 2), (.tup [(.tup [(.int 0), (.int 1)]), (.tup [(.int 1), (.int 0)])])]), some (.tup [(.tup [(.int 2), (.tup [])]), (.int 2), (.tup [])]), some (.lst [.non, (.tup [(.int 0), qw9, (.tup [qw4])]), (.tup [(.int 1), qw10]), (.tup [(.int 0), qw11]), (.tup [(.tup [qw4]), (.tup [qw12])])]), none, none, none] (Cup c []) = .ok .non (Cup c []) := by kernel_rfl
theorem s_told_3_1 (c : Cp) (y : D) : evx (cl 10) LL.G {} (.tup [(.k (.int 0)), (.k qw9), (.tup [(.k qw4)])]) [some y, some (.ref 0), some (.tup [(.tup [(.int 2), (.tup [])]), (.int 2), (.tup [(.tup [(.int 0), (.int 1)]), (.tup [(.int 1), (.int 0)])])]), some (.tup [(.tup [(.int 2), (.tup [])]), (.int 2), (.tup [])]), some (.lst [.non, (.tup [(.int 0), qw9, (.tup [qw4])]), (.tup [(.int 1), qw10]), (.tup [(.int 0), qw11]), (.tup [(.tup [qw4]), (.tup [qw12])])]), none, none, none] (Cup c []) = .ok (.tup [(.int 0), qw9, (.tup [qw4])]) (Cup c []) := by kernel_rfl
theorem s_told_3_2 (c : Cp) (y : D) : evx (cl 10) LL.G {} (.tup [(.k (.int 1)), (.k qw10)]) [some y, some (.ref 0), some (.tup [(.tup [(.int 2), (.tup [])]), (.int 2), (.tup [(.tup [(.int 0), (.int 1)]), (.tup [(.int 1), (.int 0)])])]), some (.tup [(.tup [(.int 2), (.tup [])]), (.int 2), (.tup [])]), some (.lst [.non, (.tup [(.int 0), qw9, (.tup [qw4])]), (.tup [(.int 1), qw10]), (.tup [(.int 0), qw11]), (.tup [(.tup [qw4]), (.tup [qw12])])]), none, none, none] (Cup c []) = .ok (.tup [(.int 1), qw10]) (Cup c []) := by kernel_rfl
theorem s_told_3_3 (c : Cp) (y : D) : evx (cl 10) LL.G {} (.tup [(.k (.int 0)), (.k qw11)]) [some y, some (.ref 0), some (.tup [(.tup [(.int 2), (.tup [])]), (.int 2), (.tup [(.tup [(.int 0), (.int 1)]), (.tup [(.int 1), (.int 0)])])]), some (.tup [(.tup [(.int 2), (.tup [])]), (.int 2), (.tup [])]), some (.lst [.non, (.tup [(.int 0), qw9, (.tup [qw4])]), (.tup [(.int 1), qw10]), (.tup [(.int 0), qw11]), (.tup [(.tup [qw4]), (.tup [qw12])])]), none, none, none] (Cup c []) = .ok (.tup [(.int 0), qw11]) (Cup c []) := by kernel_rfl
theorem s_told_3_4 (c : Cp) (y : D) : evx (cl 10) LL.G {} (.tup [(.tup [(.k qw4)]), (.tup [(.k qw12)])]) [some y, some (.ref 0), some (.tup [(.tup [(.int 2), (.tup [])]), (.int 2), (.tup [(.tup [(.int 0), (.int 1)]), (.tup [(.int 1), (.int 0)])])]), some (.tup [(.tup [(.int 2), (.tup [])]), (.int 2), (.tup [])]), some (.lst [.non, (.tup [(.int 0), qw9, (.tup [qw4])]), (.tup [(.int 1), qw10]), (.tup [(.int 0), qw11]), (.tup [(.tup [qw4]), (.tup [qw12])])]), none, none, none] (Cup c []) = .ok (.tup [(.tup [qw4]), (.tup [qw12])]) (Cup c []) := by kernel_rfl
theorem s_told_3 (c : Cp) (y : D) : exx (cl 10) LL.G {} (.asg (.n 5) (.lst [(.k .non), (.tup [(.k (.int 0)), (.k qw9), (.tup [(.k qw4)])]), (.tup [(.k (.int 1)), (.k qw10)]), (.tup [(.k (.int 0)), (.k qw11)]), (.tup [(.tup [(.k qw4)]), (.tup [(.k qw12)])])])) [some y, some (.ref 0), some (.tup [(.tup [(.int 2), (.tup [])]), (.int 2), (.tup [(.tup [(.int 0), (.int 1)]), (.tup [(.int 1), (.int 0)])])]), some (.tup [(.tup [(.int 2), (.tup [])]), (.int 2), (.tup [])]), some (.lst [.non, (.tup [(.int 0), qw9, (.tup [qw4])]), (.tup [(.int 1), qw10]), (.tup [(.int 0), qw11]), (.tup [(.tup [qw4]), (.tup [qw12])])]), none, none, none] (Cup c []) = .nx [some y, some (.ref 0), some (.tup [(.tup [(.int 2), (.tup [])]), (.int 2), (.tup [(.tup [(.int 0), (.int 1)]), (.tup [(.int 1), (.int 0)])])]), some (.tup [(.tup [(.int 2), (.tup [])]), (.int 2), (.tup [])]), some (.lst [.non, (.tup [(.int 0), qw9, (.tup [qw4])]), (.tup [(.int 1), qw10]), (.tup [(.int 0), qw11]), (.tup [(.tup [qw4]), (.tup [qw12])])]), some (.lst [.non, (.tup [(.int 0), qw9, (.tup [qw4])]), (.tup [(.int 1), qw10]), (.tup [(.int 0), qw11]), (.tup [(.tup [qw4]), (.tup [qw12])])]), none, none] (Cup c []) := asg_cl (lst_cl (evs_nx (s_told_3_0 c y) (evs_nx (s_told_3_1 c y) (evs_nx (s_told_3_2 c y) (evs_nx (s_told_3_3 c y) (evs_nx (s_told_3_4 c y) evs_nil0))))) (by decide +kernel)) (by kernel_rfl)
theorem s_told_4_0 (c : Cp) (y : D) : evx (cl 10) LL.G {} (.sl (.call 23 [(.v 2)]) (some (.k (.int 4))) none) [some y, some (.ref 0), some (.tup [(.tup [(.int 2), (.tup [])]), (.int 2), (.tup [(.tup [(.int 0), (.int 1)]), (.tup [(.int 1), (.int 0)])])]), some (.tup [(.tup [(.int 2), (.tup [])]), (.int 2), (.tup [])]), some (.lst [.non, (.tup [(.int 0), qw9, (.tup [qw4])]), (.tup [(.int 1), qw10]), (.tup [(.int 0), qw11]), (.tup [(.tup [qw4]), (.tup [qw12])])]), some (.lst [.non, (.tup [(.int 0), qw9, (.tup [qw4])]), (.tup [(.int 1), qw10]), (.tup [(.int 0), qw11]), (.tup [(.tup [qw4]), (.tup [qw12])])]), none, none] (Cup c []) = .ok (.tup [(.tup [qw12]), (.tup [qw3, (.int 0)]), (.tup [qw3, (.int 1)]), (.tup [qw7])]) (Cup c []) := by kernel_rfl
theorem s_told_4_1 (c : Cp) (y : D) : evx (cl 10) LL.G {} (.call 22 [(.v 2), (.tup [(.tup [(.k qw7)])])]) [some y, some (.ref 0), some (.tup [(.tup [(.int 2), (.tup [])]), (.int 2), (.tup [(.tup [(.int 0), (.int 1)]), (.tup [(.int 1), (.int 0)])])]), some (.tup [(.tup [(.int 2), (.tup [])]), (.int 2), (.tup [])]), some (.lst [.non, (.tup [(.int 0), qw9, (.tup [qw4])]), (.tup [(.int 1), qw10]), (.tup [(.int 0), qw11]), (.tup [(.tup [qw4]), (.tup [qw12])])]), some (.lst [.non, (.tup [(.int 0), qw9, (.tup [qw4])]), (.tup [(.int 1), qw10]), (.tup [(.int 0), qw11]), (.tup [(.tup [qw4]), (.tup [qw12])])]), none, none] (Cup c []) = .ok (.tup [(.int 0), qw9, (.tup [qw12])]) (Cup c []) := by kernel_rfl
theorem s_told_4_2 (c : Cp) (y : D) : evx (cl 10) LL.G {} (.call 24 [(.v 3), (.tup [(.k qw7)])]) [some y, some (.ref 0), some (.tup [(.tup [(.int 2), (.tup [])]), (.int 2), (.tup [(.tup [(.int 0), (.int 1)]), (.tup [(.int 1), (.int 0)])])]), some (.tup [(.tup [(.int 2), (.tup [])]), (.int 2), (.tup [])]), some (.lst [.non, (.tup [(.int 0), qw9, (.tup [qw4])]), (.tup [(.int 1), qw10]), (.tup [(.int 0), qw11]), (.tup [(.tup [qw4]), (.tup [qw12])])]), some (.lst [.non, (.tup [(.int 0), qw9, (.tup [qw4])]), (.tup [(.int 1), qw10]), (.tup [(.int 0), qw11]), (.tup [(.tup [qw4]), (.tup [qw12])])]), none, none] (Cup c []) = .ok (.tup [(.tup [qw4]), (.tup [qw12]), (.tup [qw13]), (.tup [qw8]), (.tup [qw1]), (.tup [qw7])]) (Cup c []) := by kernel_rfl
theorem s_told_4_3 (c : Cp) (y : D) : evx (cl 10) LL.G {} (.call 22 [(.v 2), (.tup [(.tup [(.k qw4)]), (.tup [(.k qw7)])])]) [some y, some (.ref 0), some (.tup [(.tup [(.int 2), (.tup [])]), (.int 2), (.tup [(.tup [(.int 0), (.int 1)]), (.tup [(.int 1), (.int 0)])])]), some (.tup [(.tup [(.int 2), (.tup [])]), (.int 2), (.tup [])]), some (.lst [.non, (.tup [(.int 0), qw9, (.tup [qw4])]), (.tup [(.int 1), qw10]), (.tup [(.int 0), qw11]), (.tup [(.tup [qw4]), (.tup [qw12])])]), some (.lst [.non, (.tup [(.int 0), qw9, (.tup [qw4])]), (.tup [(.int 1), qw10]), (.tup [(.int 0), qw11]), (.tup [(.tup [qw4]), (.tup [qw12])])]), none, none] (Cup c []) = .ok (.tup [(.int 1), qw9, (.tup [qw12])]) (Cup c []) := by kernel_rfl
theorem s_told_4_4 (c : Cp) (y : D) : evx (cl 10) LL.G {} (.call 22 [(.v 3), (.tup [(.tup [(.k qw4)]), (.tup [(.k qw12)]), (.tup [(.k qw3), (.k (.int 0))]), (.tup [(.k qw3), (.k (.int 0))])])]) [some y, some (.ref 0), some (.tup [(.tup [(.int 2), (.tup [])]), (.int 2), (.tup [(.tup [(.int 0), (.int 1)]), (.tup [(.int 1), (.int 0)])])]), some (.tup [(.tup [(.int 2), (.tup [])]), (.int 2), (.tup [])]), some (.lst [.non, (.tup [(.int 0), qw9, (.tup [qw4])]), (.tup [(.int 1), qw10]), (.tup [(.int 0), qw11]), (.tup [(.tup [qw4]), (.tup [qw12])])]), some (.lst [.non, (.tup [(.int 0), qw9, (.tup [qw4])]), (.tup [(.int 1), qw10]), (.tup [(.int 0), qw11]), (.tup [(.tup [qw4]), (.tup [qw12])])]), none, none] (Cup c []) = .ok (.tup [(.int 2), qw11]) (Cup c []) := by kernel_rfl
theorem s_told_4 (c : Cp) (y : D) : exx (cl 10) LL.G {} (.asg (.n 4) (.bin .add (.v 4) (.lst [(.sl (.call 23 [(.v 2)]) (some (.k (.int 4))) none), (.call 22 [(.v 2), (.tup [(.tup [(.k qw7)])])]), (.call 24 [(.v 3), (.tup [(.k qw7)])]), (.call 22 [(.v 2), (.tup [(.tup [(.k qw4)]), (.tup [(.k qw7)])])]), (.call 22 [(.v 3), (.tup [(.tup [(.k qw4)]), (.tup [(.k qw12)]), (.tup [(.k qw3), (.k (.int 0))]), (.tup [(.k qw3), (.k (.int 0))])])])]))) [some y, some (.ref 0), some (.tup [(.tup [(.int 2), (.tup [])]), (.int 2), (.tup [(.tup [(.int 0), (.int 1)]), (.tup [(.int 1), (.int 0)])])]), some (.tup [(.tup [(.int 2), (.tup [])]), (.int 2), (.tup [])]), some (.lst [.non, (.tup [(.int 0), qw9, (.tup [qw4])]), (.tup [(.int 1), qw10]), (.tup [(.int 0), qw11]), (.tup [(.tup [qw4]), (.tup [qw12])])]), some (.lst [.non, (.tup [(.int 0), qw9, (.tup [qw4])]), (.tup [(.int 1), qw10]), (.tup [(.int 0), qw11]), (.tup [(.tup [qw4]), (.tup [qw12])])]), none, none] (Cup c []) = .nx [some y, some (.ref 0), some (.tup [(.tup [(.int 2), (.tup [])]), (.int 2), (.tup [(.tup [(.int 0), (.int 1)]), (.tup [(.int 1), (.int 0)])])]), some (.tup [(.tup [(.int 2), (.tup [])]), (.int 2), (.tup [])]), some (.lst [.non, (.tup [(.int 0), qw9, (.tup [qw4])]), (.tup [(.int 1), qw10]), (.tup [(.int 0), qw11]), (.tup [(.tup [qw4]), (.tup [qw12])]), (.tup [(.tup [qw12]), (.tup [qw3, (.int 0)]), (.tup [qw3, (.int 1)]), (.tup [qw7])]), (.tup [(.int 0), qw9, (.tup [qw12])]), (.tup [(.tup [qw4]), (.tup [qw12]), (.tup [qw13]), (.tup [qw8]), (.tup [qw1]), (.tup [qw7])]), (.tup [(.int 1), qw9, (.tup [qw12])]), (.tup [(.int 2), qw11])]), some (.lst [.non, (.tup [(.int 0), qw9, (.tup [qw4])]), (.tup [(.int 1), qw10]), (.tup [(.int 0), qw11]), (.tup [(.tup [qw4]), (.tup [qw12])])]), none, none] (Cup c []) := asg_cl (d := (.lst [.non, (.tup [(.int 0), qw9, (.tup [qw4])]), (.tup [(.int 1), qw10]), (.tup [(.int 0), qw11]), (.tup [(.tup [qw4]), (.tup [qw12])]), (.tup [(.tup [qw12]), (.tup [qw3, (.int 0)]), (.tup [qw3, (.int 1)]), (.tup [qw7])]), (.tup [(.int 0), qw9, (.tup [qw12])]), (.tup [(.tup [qw4]), (.tup [qw12]), (.tup [qw13]), (.tup [qw8]), (.tup [qw1]), (.tup [qw7])]), (.tup [(.int 1), qw9, (.tup [qw12])]), (.tup [(.int 2), qw11])])) (bin_cl (v_cl rfl) (lst_cl (evs_nx (s_told_4_0 c y) (evs_nx (s_told_4_1 c y) (evs_nx (s_told_4_2 c y) (evs_nx (s_told_4_3 c y) (evs_nx (s_told_4_4 c y) evs_nil0))))) (by decide +kernel)) (by kernel_rfl)) (by kernel_rfl)
theorem s_told_5_0 (c : Cp) (y : D) : evx (cl 10) LL.G {} (.tup [(.tup [(.k qw12)]), (.tup [(.k qw3), (.k (.int 0))]), (.tup [(.k qw3), (.k (.int 1))]), (.tup [(.k qw7)])]) [some y, some (.ref 0), some (.tup [(.tup [(.int 2), (.tup [])]), (.int 2), (.tup [(.tup [(.int 0), (.int 1)]), (.tup [(.int 1), (.int 0)])])]), some (.tup [(.tup [(.int 2), (.tup [])]), (.int 2), (.tup [])]), some (.lst [.non, (.tup [(.int 0), qw9, (.tup [qw4])]), (.tup [(.int 1), qw10]), (.tup [(.int 0), qw11]), (.tup [(.tup [qw4]), (.tup [qw12])]), (.tup [(.tup [qw12]), (.tup [qw3, (.int 0)]), (.tup [qw3, (.int 1)]), (.tup [qw7])]), (.tup [(.int 0), qw9, (.tup [qw12])]), (.tup [(.tup [qw4]), (.tup [qw12]), (.tup [qw13]), (.tup [qw8]), (.tup [qw1]), (.tup [qw7])]), (.tup [(.int 1), qw9, (.tup [qw12])]), (.tup [(.int 2), qw11])]), some (.lst [.non, (.tup [(.int 0), qw9, (.tup [qw4])]), (.tup [(.int 1), qw10]), (.tup [(.int 0), qw11]), (.tup [(.tup [qw4]), (.tup [qw12])])]), none, none] (Cup c []) = .ok (.tup [(.tup [qw12]), (.tup [qw3, (.int 0)]), (.tup [qw3, (.int 1)]), (.tup [qw7])]) (Cup c []) := by kernel_rfl
theorem s_told_5_1 (c : Cp) (y : D) : evx (cl 10) LL.G {} (.tup [(.k (.int 0)), (.k qw9), (.tup [(.k qw12)])]) [some y, some (.ref 0), some (.tup [(.tup [(.int 2), (.tup [])]), (.int 2), (.tup [(.tup [(.int 0), (.int 1)]), (.tup [(.int 1), (.int 0)])])]), some (.tup [(.tup [(.int 2), (.tup [])]), (.int 2), (.tup [])]), some (.lst [.non, (.tup [(.int 0), qw9, (.tup [qw4])]), (.tup [(.int 1), qw10]), (.tup [(.int 0), qw11]), (.tup [(.tup [qw4]), (.tup [qw12])]), (.tup [(.tup [qw12]), (.tup [qw3, (.int 0)]), (.tup [qw3, (.int 1)]), (.tup [qw7])]), (.tup [(.int 0), qw9, (.tup [qw12])]), (.tup [(.tup [qw4]), (.tup [qw12]), (.tup [qw13]), (.tup [qw8]), (.tup [qw1]), (.tup [qw7])]), (.tup [(.int 1), qw9, (.tup [qw12])]), (.tup [(.int 2), qw11])]), some (.lst [.non, (.tup [(.int 0), qw9, (.tup [qw4])]), (.tup [(.int 1), qw10]), (.tup [(.int 0), qw11]), (.tup [(.tup [qw4]), (.tup [qw12])])]), none, none] (Cup c []) = .ok (.tup [(.int 0), qw9, (.tup [qw12])]) (Cup c []) := by kernel_rfl
theorem s_told_5_2 (c : Cp) (y : D) : evx (cl 10) LL.G {} (.tup [(.tup [(.k qw4)]), (.tup [(.k qw12)]), (.tup [(.k qw13)]), (.tup [(.k qw8)]), (.tup [(.k qw1)]), (.tup [(.k qw7)])]) [some y, some (.ref 0), some (.tup [(.tup [(.int 2), (.tup [])]), (.int 2), (.tup [(.tup [(.int 0), (.int 1)]), (.tup [(.int 1), (.int 0)])])]), some (.tup [(.tup [(.int 2), (.tup [])]), (.int 2), (.tup [])]), some (.lst [.non, (.tup [(.int 0), qw9, (.tup [qw4])]), (.tup [(.int 1), qw10]), (.tup [(.int 0), qw11]), (.tup [(.tup [qw4]), (.tup [qw12])]), (.tup [(.tup [qw12]), (.tup [qw3, (.int 0)]), (.tup [qw3, (.int 1)]), (.tup [qw7])]), (.tup [(.int 0), qw9, (.tup [qw12])]), (.tup [(.tup [qw4]), (.tup [qw12]), (.tup [qw13]), (.tup [qw8]), (.tup [qw1]), (.tup [qw7])]), (.tup [(.int 1), qw9, (.tup [qw12])]), (.tup [(.int 2), qw11])]), some (.lst [.non, (.tup [(.int 0), qw9, (.tup [qw4])]), (.tup [(.int 1), qw10]), (.tup [(.int 0), qw11]), (.tup [(.tup [qw4]), (.tup [qw12])])]), none, none] (Cup c []) = .ok (.tup [(.tup [qw4]), (.tup [qw12]), (.tup [qw13]), (.tup [qw8]), (.tup [qw1]), (.tup [qw7])]) (Cup c []) := by kernel_rfl
theorem s_told_5_3 (c : Cp) (y : D) : evx (cl 10) LL.G {} (.tup [(.k (.int 1)), (.k qw9), (.tup [(.k qw12)])]) [some y, some (.ref 0), some (.tup [(.tup [(.int 2), (.tup [])]), (.int 2), (.tup [(.tup [(.int 0), (.int 1)]), (.tup [(.int 1), (.int 0)])])]), some (.tup [(.tup [(.int 2), (.tup [])]), (.int 2), (.tup [])]), some (.lst [.non, (.tup [(.int 0), qw9, (.tup [qw4])]), (.tup [(.int 1), qw10]), (.tup [(.int 0), qw11]), (.tup [(.tup [qw4]), (.tup [qw12])]), (.tup [(.tup [qw12]), (.tup [qw3, (.int 0)]), (.tup [qw3, (.int 1)]), (.tup [qw7])]), (.tup [(.int 0), qw9, (.tup [qw12])]), (.tup [(.tup [qw4]), (.tup [qw12]), (.tup [qw13]), (.tup [qw8]), (.tup [qw1]), (.tup [qw7])]), (.tup [(.int 1), qw9, (.tup [qw12])]), (.tup [(.int 2), qw11])]), some (.lst [.non, (.tup [(.int 0), qw9, (.tup [qw4])]), (.tup [(.int 1), qw10]), (.tup [(.int 0), qw11]), (.tup [(.tup [qw4]), (.tup [qw12])])]), none, none] (Cup c []) = .ok (.tup [(.int 1), qw9, (.tup [qw12])]) (Cup c []) := by kernel_rfl
theorem s_told_5_4 (c : Cp) (y : D) : evx (cl 10) LL.G {} (.tup [(.k (.int 2)), (.k qw11)]) [some y, some (.ref 0), some (.tup [(.tup [(.int 2), (.tup [])]), (.int 2), (.tup [(.tup [(.int 0), (.int 1)]), (.tup [(.int 1), (.int 0)])])]), some (.tup [(.tup [(.int 2), (.tup [])]), (.int 2), (.tup [])]), some (.lst [.non, (.tup [(.int 0), qw9, (.tup [qw4])]), (.tup [(.int 1), qw10]), (.tup [(.int 0), qw11]), (.tup [(.tup [qw4]), (.tup [qw12])]), (.tup [(.tup [qw12]), (.tup [qw3, (.int 0)]), (.tup [qw3, (.int 1)]), (.tup [qw7])]), (.tup [(.int 0), qw9, (.tup [qw12])]), (.tup [(.tup [qw4]), (.tup [qw12]), (.tup [qw13]), (.tup [qw8]), (.tup [qw1]), (.tup [qw7])]), (.tup [(.int 1), qw9, (.tup [qw12])]), (.tup [(.int 2), qw11])]), some (.lst [.non, (.tup [(.int 0), qw9, (.tup [qw4])]), (.tup [(.int 1), qw10]), (.tup [(.int 0), qw11]), (.tup [(.tup [qw4]), (.tup [qw12])])]), none, none] (Cup c []) = .ok (.tup [(.int 2), qw11]) (Cup c []) := by kernel_rfl
theorem s_told_5 (c : Cp) (y : D) : exx (cl 10) LL.G {} (.asg (.n 5) (.bin .add (.v 5) (.lst [(.tup [(.tup [(.k qw12)]), (.tup [(.k qw3), (.k (.int 0))]), (.tup [(.k qw3), (.k (.int 1))]), (.tup [(.k qw7)])]), (.tup [(.k (.int 0)), (.k qw9), (.tup [(.k qw12)])]), (.tup [(.tup [(.k qw4)]), (.tup [(.k qw12)]), (.tup [(.k qw13)]), (.tup [(.k qw8)]), (.tup [(.k qw1)]), (.tup [(.k qw7)])]), (.tup [(.k (.int 1)), (.k qw9), (.tup [(.k qw12)])]), (.tup [(.k (.int 2)), (.k qw11)])]))) [some y, some (.ref 0), some (.tup [(.tup [(.int 2), (.tup [])]), (.int 2), (.tup [(.tup [(.int 0), (.int 1)]), (.tup [(.int 1), (.int 0)])])]), some (.tup [(.tup [(.int 2), (.tup [])]), (.int 2), (.tup [])]), some (.lst [.non, (.tup [(.int 0), qw9, (.tup [qw4])]), (.tup [(.int 1), qw10]), (.tup [(.int 0), qw11]), (.tup [(.tup [qw4]), (.tup [qw12])]), (.tup [(.tup [qw12]), (.tup [qw3, (.int 0)]), (.tup [qw3, (.int 1)]), (.tup [qw7])]), (.tup [(.int 0), qw9, (.tup [qw12])]), (.tup [(.tup [qw4]), (.tup [qw12]), (.tup [qw13]), (.tup [qw8]), (.tup [qw1]), (.tup [qw7])]), (.tup [(.int 1), qw9, (.tup [qw12])]), (.tup [(.int 2), qw11])]), some (.lst [.non, (.tup [(.int 0), qw9, (.tup [qw4])]), (.tup [(.int 1), qw10]), (.tup [(.int 0), qw11]), (.tup [(.tup [qw4]), (.tup [qw12])])]), none, none] (Cup c []) = .nx [some y, some (.ref 0), some (.tup [(.tup [(.int 2), (.tup [])]), (.int 2), (.tup [(.tup [(.int 0), (.int 1)]), (.tup [(.int 1), (.int 0)])])]), some (.tup [(.tup [(.int 2), (.tup [])]), (.int 2), (.tup [])]), some (.lst [.non, (.tup [(.int 0), qw9, (.tup [qw4])]), (.tup [(.int 1), qw10]), (.tup [(.int 0), qw11]), (.tup [(.tup [qw4]), (.tup [qw12])]), (.tup [(.tup [qw12]), (.tup [qw3, (.int 0)]), (.tup [qw3, (.int 1)]), (.tup [qw7])]), (.tup [(.int 0), qw9, (.tup [qw12])]), (.tup [(.tup [qw4]), (.tup [qw12]), (.tup [qw13]), (.tup [qw8]), (.tup [qw1]), (.tup [qw7])]), (.tup [(.int 1), qw9, (.tup [qw12])]), (.tup [(.int 2), qw11])]), some (.lst [.non, (.tup [(.int 0), qw9, (.tup [qw4])]), (.tup [(.int 1), qw10]), (.tup [(.int 0), qw11]), (.tup [(.tup [qw4]), (.tup [qw12])]), (.tup [(.tup [qw12]), (.tup [qw3, (.int 0)]), (.tup [qw3, (.int 1)]), (.tup [qw7])]), (.tup [(.int 0), qw9, (.tup [qw12])]), (.tup [(.tup [qw4]), (.tup [qw12]), (.tup [qw13]), (.tup [qw8]), (.tup [qw1]), (.tup [qw7])]), (.tup [(.int 1), qw9, (.tup [qw12])]), (.tup [(.int 2), qw11])]), none, none] (Cup c []) := asg_cl (d := (.lst [.non, (.tup [(.int 0), qw9, (.tup [qw4])]), (.tup [(.int 1), qw10]), (.tup [(.int 0), qw11]), (.tup [(.tup [qw4]), (.tup [qw12])]), (.tup [(.tup [qw12]), (.tup [qw3, (.int 0)]), (.tup [qw3, (.int 1)]), (.tup [qw7])]), (.tup [(.int 0), qw9, (.tup [qw12])]), (.tup [(.tup [qw4]), (.tup [qw12]), (.tup [qw13]), (.tup [qw8]), (.tup [qw1]), (.tup [qw7])]), (.tup [(.int 1), qw9, (.tup [qw12])]), (.tup [(.int 2), qw11])])) (bin_cl (v_cl rfl) (lst_cl (evs_nx (s_told_5_0 c y) (evs_nx (s_told_5_1 c y) (evs_nx (s_told_5_2 c y) (evs_nx (s_told_5_3 c y) (evs_nx (s_told_5_4 c y) evs_nil0))))) (by decide +kernel)) (by kernel_rfl)) (by kernel_rfl)
theorem s_told_6 (c : Cp) (y : D) : exx (cl 10) LL.G {} (.asg (.n 6) (.call 23 [(.v 2)])) [some y, some (.ref 0), some (.tup [(.tup [(.int 2), (.tup [])]), (.int 2), (.tup [(.tup [(.int 0), (.int 1)]), (.tup [(.int 1), (.int 0)])])]), some (.tup [(.tup [(.int 2), (.tup [])]), (.int 2), (.tup [])]), some (.lst [.non, (.tup [(.int 0), qw9, (.tup [qw4])]), (.tup [(.int 1), qw10]), (.tup [(.int 0), qw11]), (.tup [(.tup [qw4]), (.tup [qw12])]), (.tup [(.tup [qw12]), (.tup [qw3, (.int 0)]), (.tup [qw3, (.int 1)]), (.tup [qw7])]), (.tup [(.int 0), qw9, (.tup [qw12])]), (.tup [(.tup [qw4]), (.tup [qw12]), (.tup [qw13]), (.tup [qw8]), (.tup [qw1]), (.tup [qw7])]), (.tup [(.int 1), qw9, (.tup [qw12])]), (.tup [(.int 2), qw11])]), some (.lst [.non, (.tup [(.int 0), qw9, (.tup [qw4])]), (.tup [(.int 1), qw10]), (.tup [(.int 0), qw11]), (.tup [(.tup [qw4]), (.tup [qw12])]), (.tup [(.tup [qw12]), (.tup [qw3, (.int 0)]), (.tup [qw3, (.int 1)]), (.tup [qw7])]), (.tup [(.int 0), qw9, (.tup [qw12])]), (.tup [(.tup [qw4]), (.tup [qw12]), (.tup [qw13]), (.tup [qw8]), (.tup [qw1]), (.tup [qw7])]), (.tup [(.int 1), qw9, (.tup [qw12])]), (.tup [(.int 2), qw11])]), none, none] (Cup c []) = .nx [some y, some (.ref 0), some (.tup [(.tup [(.int 2), (.tup [])]), (.int 2), (.tup [(.tup [(.int 0), (.int 1)]), (.tup [(.int 1), (.int 0)])])]), some (.tup [(.tup [(.int 2), (.tup [])]), (.int 2), (.tup [])]), some (.lst [.non, (.tup [(.int 0), qw9, (.tup [qw4])]), (.tup [(.int 1), qw10]), (.tup [(.int 0), qw11]), (.tup [(.tup [qw4]), (.tup [qw12])]), (.tup [(.tup [qw12]), (.tup [qw3, (.int 0)]), (.tup [qw3, (.int 1)]), (.tup [qw7])]), (.tup [(.int 0), qw9, (.tup [qw12])]), (.tup [(.tup [qw4]), (.tup [qw12]), (.tup [qw13]), (.tup [qw8]), (.tup [qw1]), (.tup [qw7])]), (.tup [(.int 1), qw9, (.tup [qw12])]), (.tup [(.int 2), qw11])]), some (.lst [.non, (.tup [(.int 0), qw9, (.tup [qw4])]), (.tup [(.int 1), qw10]), (.tup [(.int 0), qw11]), (.tup [(.tup [qw4]), (.tup [qw12])]), (.tup [(.tup [qw12]), (.tup [qw3, (.int 0)]), (.tup [qw3, (.int 1)]), (.tup [qw7])]), (.tup [(.int 0), qw9, (.tup [qw12])]), (.tup [(.tup [qw4]), (.tup [qw12]), (.tup [qw13]), (.tup [qw8]), (.tup [qw1]), (.tup [qw7])]), (.tup [(.int 1), qw9, (.tup [qw12])]), (.tup [(.int 2), qw11])]), some (.tup [(.tup [qw1]), (.tup [qw13]), (.tup [qw4]), (.tup [qw8]), (.tup [qw12]), (.tup [qw3, (.int 0)]), (.tup [qw3, (.int 1)]), (.tup [qw7])]), none] (Cup c []) := by kernel_rfl
theorem s_told_7_0 (c : Cp) (y : D) : evx (cl 10) LL.G {} (.call 22 [(.v 2), (.bin .add (.sl (.v 6) none (some (.k (.int 2)))) (.sl (.v 6) (some (.k (.int 3))) none))]) [some y, some (.ref 0), some (.tup [(.tup [(.int 2), (.tup [])]), (.int 2), (.tup [(.tup [(.int 0), (.int 1)]), (.tup [(.int 1), (.int 0)])])]), some (.tup [(.tup [(.int 2), (.tup [])]), (.int 2), (.tup [])]), some (.lst [.non, (.tup [(.int 0), qw9, (.tup [qw4])]), (.tup [(.int 1), qw10]), (.tup [(.int 0), qw11]), (.tup [(.tup [qw4]), (.tup [qw12])]), (.tup [(.tup [qw12]), (.tup [qw3, (.int 0)]), (.tup [qw3, (.int 1)]), (.tup [qw7])]), (.tup [(.int 0), qw9, (.tup [qw12])]), (.tup [(.tup [qw4]), (.tup [qw12]), (.tup [qw13]), (.tup [qw8]), (.tup [qw1]), (.tup [qw7])]), (.tup [(.int 1), qw9, (.tup [qw12])]), (.tup [(.int 2), qw11])]), some (.lst [.non, (.tup [(.int 0), qw9, (.tup [qw4])]), (.tup [(.int 1), qw10]), (.tup [(.int 0), qw11]), (.tup [(.tup [qw4]), (.tup [qw12])]), (.tup [(.tup [qw12]), (.tup [qw3, (.int 0)]), (.tup [qw3, (.int 1)]), (.tup [qw7])]), (.tup [(.int 0), qw9, (.tup [qw12])]), (.tup [(.tup [qw4]), (.tup [qw12]), (.tup [qw13]), (.tup [qw8]), (.tup [qw1]), (.tup [qw7])]), (.tup [(.int 1), qw9, (.tup [qw12])]), (.tup [(.int 2), qw11])]), some (.tup [(.tup [qw1]), (.tup [qw13]), (.tup [qw4]), (.tup [qw8]), (.tup [qw12]), (.tup [qw3, (.int 0)]), (.tup [qw3, (.int 1)]), (.tup [qw7])]), none] (Cup c []) = .ok (.tup [(.int 2), qw9, (.tup [qw4])]) (Cup c []) := by kernel_rfl
theorem s_told_7_1 (c : Cp) (y : D) : evx (cl 10) LL.G {} (.call 22 [(.v 2), (.bin .add (.sl (.v 6) none (some (.k (.int 5)))) (.sl (.v 6) (some (.k (.int 6))) none))]) [some y, some (.ref 0), some (.tup [(.tup [(.int 2), (.tup [])]), (.int 2), (.tup [(.tup [(.int 0), (.int 1)]), (.tup [(.int 1), (.int 0)])])]), some (.tup [(.tup [(.int 2), (.tup [])]), (.int 2), (.tup [])]), some (.lst [.non, (.tup [(.int 0), qw9, (.tup [qw4])]), (.tup [(.int 1), qw10]), (.tup [(.int 0), qw11]), (.tup [(.tup [qw4]), (.tup [qw12])]), (.tup [(.tup [qw12]), (.tup [qw3, (.int 0)]), (.tup [qw3, (.int 1)]), (.tup [qw7])]), (.tup [(.int 0), qw9, (.tup [qw12])]), (.tup [(.tup [qw4]), (.tup [qw12]), (.tup [qw13]), (.tup [qw8]), (.tup [qw1]), (.tup [qw7])]), (.tup [(.int 1), qw9, (.tup [qw12])]), (.tup [(.int 2), qw11])]), some (.lst [.non, (.tup [(.int 0), qw9, (.tup [qw4])]), (.tup [(.int 1), qw10]), (.tup [(.int 0), qw11]), (.tup [(.tup [qw4]), (.tup [qw12])]), (.tup [(.tup [qw12]), (.tup [qw3, (.int 0)]), (.tup [qw3, (.int 1)]), (.tup [qw7])]), (.tup [(.int 0), qw9, (.tup [qw12])]), (.tup [(.tup [qw4]), (.tup [qw12]), (.tup [qw13]), (.tup [qw8]), (.tup [qw1]), (.tup [qw7])]), (.tup [(.int 1), qw9, (.tup [qw12])]), (.tup [(.int 2), qw11])]), some (.tup [(.tup [qw1]), (.tup [qw13]), (.tup [qw4]), (.tup [qw8]), (.tup [qw12]), (.tup [qw3, (.int 0)]), (.tup [qw3, (.int 1)]), (.tup [qw7])]), none] (Cup c []) = .ok (.tup [(.int 6), qw9, (.tup [qw3, (.int 0)])]) (Cup c []) := by kernel_rfl
theorem s_told_7_2 (c : Cp) (y : D) : evx (cl 10) LL.G {} (.call 22 [(.v 2), (.tup [(.tup [(.k qw8)]), (.tup [(.k qw8)])])]) [some y, some (.ref 0), some (.tup [(.tup [(.int 2), (.tup [])]), (.int 2), (.tup [(.tup [(.int 0), (.int 1)]), (.tup [(.int 1), (.int 0)])])]), some (.tup [(.tup [(.int 2), (.tup [])]), (.int 2), (.tup [])]), some (.lst [.non, (.tup [(.int 0), qw9, (.tup [qw4])]), (.tup [(.int 1), qw10]), (.tup [(.int 0), qw11]), (.tup [(.tup [qw4]), (.tup [qw12])]), (.tup [(.tup [qw12]), (.tup [qw3, (.int 0)]), (.tup [qw3, (.int 1)]), (.tup [qw7])]), (.tup [(.int 0), qw9, (.tup [qw12])]), (.tup [(.tup [qw4]), (.tup [qw12]), (.tup [qw13]), (.tup [qw8]), (.tup [qw1]), (.tup [qw7])]), (.tup [(.int 1), qw9, (.tup [qw12])]), (.tup [(.int 2), qw11])]), some (.lst [.non, (.tup [(.int 0), qw9, (.tup [qw4])]), (.tup [(.int 1), qw10]), (.tup [(.int 0), qw11]), (.tup [(.tup [qw4]), (.tup [qw12])]), (.tup [(.tup [qw12]), (.tup [qw3, (.int 0)]), (.tup [qw3, (.int 1)]), (.tup [qw7])]), (.tup [(.int 0), qw9, (.tup [qw12])]), (.tup [(.tup [qw4]), (.tup [qw12]), (.tup [qw13]), (.tup [qw8]), (.tup [qw1]), (.tup [qw7])]), (.tup [(.int 1), qw9, (.tup [qw12])]), (.tup [(.int 2), qw11])]), some (.tup [(.tup [qw1]), (.tup [qw13]), (.tup [qw4]), (.tup [qw8]), (.tup [qw12]), (.tup [qw3, (.int 0)]), (.tup [qw3, (.int 1)]), (.tup [qw7])]), none] (Cup c []) = .ok (.tup [(.int 0), qw9, (.tup [qw4])]) (Cup c []) := by kernel_rfl
theorem s_told_7_3 (c : Cp) (y : D) : evx (cl 10) LL.G {} (.call 22 [(.v 2), (.tup [])]) [some y, some (.ref 0), some (.tup [(.tup [(.int 2), (.tup [])]), (.int 2), (.tup [(.tup [(.int 0), (.int 1)]), (.tup [(.int 1), (.int 0)])])]), some (.tup [(.tup [(.int 2), (.tup [])]), (.int 2), (.tup [])]), some (.lst [.non, (.tup [(.int 0), qw9, (.tup [qw4])]), (.tup [(.int 1), qw10]), (.tup [(.int 0), qw11]), (.tup [(.tup [qw4]), (.tup [qw12])]), (.tup [(.tup [qw12]), (.tup [qw3, (.int 0)]), (.tup [qw3, (.int 1)]), (.tup [qw7])]), (.tup [(.int 0), qw9, (.tup [qw12])]), (.tup [(.tup [qw4]), (.tup [qw12]), (.tup [qw13]), (.tup [qw8]), (.tup [qw1]), (.tup [qw7])]), (.tup [(.int 1), qw9, (.tup [qw12])]), (.tup [(.int 2), qw11])]), some (.lst [.non, (.tup [(.int 0), qw9, (.tup [qw4])]), (.tup [(.int 1), qw10]), (.tup [(.int 0), qw11]), (.tup [(.tup [qw4]), (.tup [qw12])]), (.tup [(.tup [qw12]), (.tup [qw3, (.int 0)]), (.tup [qw3, (.int 1)]), (.tup [qw7])]), (.tup [(.int 0), qw9, (.tup [qw12])]), (.tup [(.tup [qw4]), (.tup [qw12]), (.tup [qw13]), (.tup [qw8]), (.tup [qw1]), (.tup [qw7])]), (.tup [(.int 1), qw9, (.tup [qw12])]), (.tup [(.int 2), qw11])]), some (.tup [(.tup [qw1]), (.tup [qw13]), (.tup [qw4]), (.tup [qw8]), (.tup [qw12]), (.tup [qw3, (.int 0)]), (.tup [qw3, (.int 1)]), (.tup [qw7])]), none] (Cup c []) = .ok .non (Cup c []) := by kernel_rfl
theorem s_told_7 (c : Cp) (y : D) : exx (cl 10) LL.G {} (.asg (.n 4) (.bin .add (.v 4) (.lst [(.call 22 [(.v 2), (.bin .add (.sl (.v 6) none (some (.k (.int 2)))) (.sl (.v 6) (some (.k (.int 3))) none))]), (.call 22 [(.v 2), (.bin .add (.sl (.v 6) none (some (.k (.int 5)))) (.sl (.v 6) (some (.k (.int 6))) none))]), (.call 22 [(.v 2), (.tup [(.tup [(.k qw8)]), (.tup [(.k qw8)])])]), (.call 22 [(.v 2), (.tup [])])]))) [some y, some (.ref 0), some (.tup [(.tup [(.int 2), (.tup [])]), (.int 2), (.tup [(.tup [(.int 0), (.int 1)]), (.tup [(.int 1), (.int 0)])])]), some (.tup [(.tup [(.int 2), (.tup [])]), (.int 2), (.tup [])]), some (.lst [.non, (.tup [(.int 0), qw9, (.tup [qw4])]), (.tup [(.int 1), qw10]), (.tup [(.int 0), qw11]), (.tup [(.tup [qw4]), (.tup [qw12])]), (.tup [(.tup [qw12]), (.tup [qw3, (.int 0)]), (.tup [qw3, (.int 1)]), (.tup [qw7])]), (.tup [(.int 0), qw9, (.tup [qw12])]), (.tup [(.tup [qw4]), (.tup [qw12]), (.tup [qw13]), (.tup [qw8]), (.tup [qw1]), (.tup [qw7])]), (.tup [(.int 1), qw9, (.tup [qw12])]), (.tup [(.int 2), qw11])]), some (.lst [.non, (.tup [(.int 0), qw9, (.tup [qw4])]), (.tup [(.int 1), qw10]), (.tup [(.int 0), qw11]), (.tup [(.tup [qw4]), (.tup [qw12])]), (.tup [(.tup [qw12]), (.tup [qw3, (.int 0)]), (.tup [qw3, (.int 1)]), (.tup [qw7])]), (.tup [(.int 0), qw9, (.tup [qw12])]), (.tup [(.tup [qw4]), (.tup [qw12]), (.tup [qw13]), (.tup [qw8]), (.tup [qw1]), (.tup [qw7])]), (.tup [(.int 1), qw9, (.tup [qw12])]), (.tup [(.int 2), qw11])]), some (.tup [(.tup [qw1]), (.tup [qw13]), (.tup [qw4]), (.tup [qw8]), (.tup [qw12]), (.tup [qw3, (.int 0)]), (.tup [qw3, (.int 1)]), (.tup [qw7])]), none] (Cup c []) = .nx [some y, some (.ref 0), some (.tup [(.tup [(.int 2), (.tup [])]), (.int 2), (.tup [(.tup [(.int 0), (.int 1)]), (.tup [(.int 1), (.int 0)])])]), some (.tup [(.tup [(.int 2), (.tup [])]), (.int 2), (.tup [])]), some (.lst [.non, (.tup [(.int 0), qw9, (.tup [qw4])]), (.tup [(.int 1), qw10]), (.tup [(.int 0), qw11]), (.tup [(.tup [qw4]), (.tup [qw12])]), (.tup [(.tup [qw12]), (.tup [qw3, (.int 0)]), (.tup [qw3, (.int 1)]), (.tup [qw7])]), (.tup [(.int 0), qw9, (.tup [qw12])]), (.tup [(.tup [qw4]), (.tup [qw12]), (.tup [qw13]), (.tup [qw8]), (.tup [qw1]), (.tup [qw7])]), (.tup [(.int 1), qw9, (.tup [qw12])]), (.tup [(.int 2), qw11]), (.tup [(.int 2), qw9, (.tup [qw4])]), (.tup [(.int 6), qw9, (.tup [qw3, (.int 0)])]), (.tup [(.int 0), qw9, (.tup [qw4])]), .non]), some (.lst [.non, (.tup [(.int 0), qw9, (.tup [qw4])]), (.tup [(.int 1), qw10]), (.tup [(.int 0), qw11]), (.tup [(.tup [qw4]), (.tup [qw12])]), (.tup [(.tup [qw12]), (.tup [qw3, (.int 0)]), (.tup [qw3, (.int 1)]), (.tup [qw7])]), (.tup [(.int 0), qw9, (.tup [qw12])]), (.tup [(.tup [qw4]), (.tup [qw12]), (.tup [qw13]), (.tup [qw8]), (.tup [qw1]), (.tup [qw7])]), (.tup [(.int 1), qw9, (.tup [qw12])]), (.tup [(.int 2), qw11])]), some (.tup [(.tup [qw1]), (.tup [qw13]), (.tup [qw4]), (.tup [qw8]), (.tup [qw12]), (.tup [qw3, (.int 0)]), (.tup [qw3, (.int 1)]), (.tup [qw7])]), none] (Cup c []) := asg_cl (d := (.lst [.non, (.tup [(.int 0), qw9, (.tup [qw4])]), (.tup [(.int 1), qw10]), (.tup [(.int 0), qw11]), (.tup [(.tup [qw4]), (.tup [qw12])]), (.tup [(.tup [qw12]), (.tup [qw3, (.int 0)]), (.tup [qw3, (.int 1)]), (.tup [qw7])]), (.tup [(.int 0), qw9, (.tup [qw12])]), (.tup [(.tup [qw4]), (.tup [qw12]), (.tup [qw13]), (.tup [qw8]), (.tup [qw1]), (.tup [qw7])]), (.tup [(.int 1), qw9, (.tup [qw12])]), (.tup [(.int 2), qw11]), (.tup [(.int 2), qw9, (.tup [qw4])]), (.tup [(.int 6), qw9, (.tup [qw3, (.int 0)])]), (.tup [(.int 0), qw9, (.tup [qw4])]), .non])) (bin_cl (v_cl rfl) (lst_cl (evs_nx (s_told_7_0 c y) (evs_nx (s_told_7_1 c y) (evs_nx (s_told_7_2 c y) (evs_nx (s_told_7_3 c y) evs_nil0)))) (by decide +kernel)) (by kernel_rfl)) (by kernel_rfl)
theorem s_told_8_0 (c : Cp) (y : D) : evx (cl 10) LL.G {} (.tup [(.k (.int 2)), (.k qw9), (.tup [(.k qw4)])]) [some y, some (.ref 0), some (.tup [(.tup [(.int 2), (.tup [])]), (.int 2), (.tup [(.tup [(.int 0), (.int 1)]), (.tup [(.int 1), (.int 0)])])]), some (.tup [(.tup [(.int 2), (.tup [])]), (.int 2), (.tup [])]), some (.lst [.non, (.tup [(.int 0), qw9, (.tup [qw4])]), (.tup [(.int 1), qw10]), (.tup [(.int 0), qw11]), (.tup [(.tup [qw4]), (.tup [qw12])]), (.tup [(.tup [qw12]), (.tup [qw3, (.int 0)]), (.tup [qw3, (.int 1)]), (.tup [qw7])]), (.tup [(.int 0), qw9, (.tup [qw12])]), (.tup [(.tup [qw4]), (.tup [qw12]), (.tup [qw13]), (.tup [qw8]), (.tup [qw1]), (.tup [qw7])]), (.tup [(.int 1), qw9, (.tup [qw12])]), (.tup [(.int 2), qw11]), (.tup [(.int 2), qw9, (.tup [qw4])]), (.tup [(.int 6), qw9, (.tup [qw3, (.int 0)])]), (.tup [(.int 0), qw9, (.tup [qw4])]), .non]), some (.lst [.non, (.tup [(.int 0), qw9, (.tup [qw4])]), (.tup [(.int 1), qw10]), (.tup [(.int 0), qw11]), (.tup [(.tup [qw4]), (.tup [qw12])]), (.tup [(.tup [qw12]), (.tup [qw3, (.int 0)]), (.tup [qw3, (.int 1)]), (.tup [qw7])]), (.tup [(.int 0), qw9, (.tup [qw12])]), (.tup [(.tup [qw4]), (.tup [qw12]), (.tup [qw13]), (.tup [qw8]), (.tup [qw1]), (.tup [qw7])]), (.tup [(.int 1), qw9, (.tup [qw12])]), (.tup [(.int 2), qw11])]), some (.tup [(.tup [qw1]), (.tup [qw13]), (.tup [qw4]), (.tup [qw8]), (.tup [qw12]), (.tup [qw3, (.int 0)]), (.tup [qw3, (.int 1)]), (.tup [qw7])]), none] (Cup c []) = .ok (.tup [(.int 2), qw9, (.tup [qw4])]) (Cup c []) := by kernel_rfl
theorem s_told_8_1 (c : Cp) (y : D) : evx (cl 10) LL.G {} (.tup [(.k (.int 6)), (.k qw9), (.tup [(.k qw3), (.k (.int 0))])]) [some y, some (.ref 0), some (.tup [(.tup [(.int 2), (.tup [])]), (.int 2), (.tup [(.tup [(.int 0), (.int 1)]), (.tup [(.int 1), (.int 0)])])]), some (.tup [(.tup [(.int 2), (.tup [])]), (.int 2), (.tup [])]), some (.lst [.non, (.tup [(.int 0), qw9, (.tup [qw4])]), (.tup [(.int 1), qw10]), (.tup [(.int 0), qw11]), (.tup [(.tup [qw4]), (.tup [qw12])]), (.tup [(.tup [qw12]), (.tup [qw3, (.int 0)]), (.tup [qw3, (.int 1)]), (.tup [qw7])]), (.tup [(.int 0), qw9, (.tup [qw12])]), (.tup [(.tup [qw4]), (.tup [qw12]), (.tup [qw13]), (.tup [qw8]), (.tup [qw1]), (.tup [qw7])]), (.tup [(.int 1), qw9, (.tup [qw12])]), (.tup [(.int 2), qw11]), (.tup [(.int 2), qw9, (.tup [qw4])]), (.tup [(.int 6), qw9, (.tup [qw3, (.int 0)])]), (.tup [(.int 0), qw9, (.tup [qw4])]), .non]), some (.lst [.non, (.tup [(.int 0), qw9, (.tup [qw4])]), (.tup [(.int 1), qw10]), (.tup [(.int 0), qw11]), (.tup [(.tup [qw4]), (.tup [qw12])]), (.tup [(.tup [qw12]), (.tup [qw3, (.int 0)]), (.tup [qw3, (.int 1)]), (.tup [qw7])]), (.tup [(.int 0), qw9, (.tup [qw12])]), (.tup [(.tup [qw4]), (.tup [qw12]), (.tup [qw13]), (.tup [qw8]), (.tup [qw1]), (.tup [qw7])]), (.tup [(.int 1), qw9, (.tup [qw12])]), (.tup [(.int 2), qw11])]), some (.tup [(.tup [qw1]), (.tup [qw13]), (.tup [qw4]), (.tup [qw8]), (.tup [qw12]), (.tup [qw3, (.int 0)]), (.tup [qw3, (.int 1)]), (.tup [qw7])]), none] (Cup c []) = .ok (.tup [(.int 6), qw9, (.tup [qw3, (.int 0)])]) (Cup c []) := by kernel_rfl
theorem s_told_8_2 (c : Cp) (y : D) : evx (cl 10) LL.G {} (.tup [(.k (.int 0)), (.k qw9), (.tup [(.k qw4)])]) [some y, some (.ref 0), some (.tup [(.tup [(.int 2), (.tup [])]), (.int 2), (.tup [(.tup [(.int 0), (.int 1)]), (.tup [(.int 1), (.int 0)])])]), some (.tup [(.tup [(.int 2), (.tup [])]), (.int 2), (.tup [])]), some (.lst [.non, (.tup [(.int 0), qw9, (.tup [qw4])]), (.tup [(.int 1), qw10]), (.tup [(.int 0), qw11]), (.tup [(.tup [qw4]), (.tup [qw12])]), (.tup [(.tup [qw12]), (.tup [qw3, (.int 0)]), (.tup [qw3, (.int 1)]), (.tup [qw7])]), (.tup [(.int 0), qw9, (.tup [qw12])]), (.tup [(.tup [qw4]), (.tup [qw12]), (.tup [qw13]), (.tup [qw8]), (.tup [qw1]), (.tup [qw7])]), (.tup [(.int 1), qw9, (.tup [qw12])]), (.tup [(.int 2), qw11]), (.tup [(.int 2), qw9, (.tup [qw4])]), (.tup [(.int 6), qw9, (.tup [qw3, (.int 0)])]), (.tup [(.int 0), qw9, (.tup [qw4])]), .non]), some (.lst [.non, (.tup [(.int 0), qw9, (.tup [qw4])]), (.tup [(.int 1), qw10]), (.tup [(.int 0), qw11]), (.tup [(.tup [qw4]), (.tup [qw12])]), (.tup [(.tup [qw12]), (.tup [qw3, (.int 0)]), (.tup [qw3, (.int 1)]), (.tup [qw7])]), (.tup [(.int 0), qw9, (.tup [qw12])]), (.tup [(.tup [qw4]), (.tup [qw12]), (.tup [qw13]), (.tup [qw8]), (.tup [qw1]), (.tup [qw7])]), (.tup [(.int 1), qw9, (.tup [qw12])]), (.tup [(.int 2), qw11])]), some (.tup [(.tup [qw1]), (.tup [qw13]), (.tup [qw4]), (.tup [qw8]), (.tup [qw12]), (.tup [qw3, (.int 0)]), (.tup [qw3, (.int 1)]), (.tup [qw7])]), none] (Cup c []) = .ok (.tup [(.int 0), qw9, (.tup [qw4])]) (Cup c []) := by kernel_rfl
theorem s_told_8_3 (c : Cp) (y : D) : evx (cl 10) LL.G {} (.k .non) [some y, some (.ref 0), some (.tup [(.tup [(.int 2), (.tup [])]), (.int 2), (.tup [(.tup [(.int 0), (.int 1)]), (.tup [(.int 1), (.int 0)])])]), some (.tup [(.tup [(.int 2), (.tup [])]), (.int 2), (.tup [])]), some (.lst [.non, (.tup [(.int 0), qw9, (.tup [qw4])]), (.tup [(.int 1), qw10]), (.tup [(.int 0), qw11]), (.tup [(.tup [qw4]), (.tup [qw12])]), (.tup [(.tup [qw12]), (.tup [qw3, (.int 0)]), (.tup [qw3, (.int 1)]), (.tup [qw7])]), (.tup [(.int 0), qw9, (.tup [qw12])]), (.tup [(.tup [qw4]), (.tup [qw12]), (.tup [qw13]), (.tup [qw8]), (.tup [qw1]), (.tup [qw7])]), (.tup [(.int 1), qw9, (.tup [qw12])]), (.tup [(.int 2), qw11]), (.tup [(.int 2), qw9, (.tup [qw4])]), (.tup [(.int 6), qw9, (.tup [qw3, (.int 0)])]), (.tup [(.int 0), qw9, (.tup [qw4])]), .non]), some (.lst [.non, (.tup [(.int 0), qw9, (.tup [qw4])]), (.tup [(.int 1), qw10]), (.tup [(.int 0), qw11]), (.tup [(.tup [qw4]), (.tup [qw12])]), (.tup [(.tup [qw12]), (.tup [qw3, (.int 0)]), (.tup [qw3, (.int 1)]), (.tup [qw7])]), (.tup [(.int 0), qw9, (.tup [qw12])]), (.tup [(.tup [qw4]), (.tup [qw12]), (.tup [qw13]), (.tup [qw8]), (.tup [qw1]), (.tup [qw7])]), (.tup [(.int 1), qw9, (.tup [qw12])]), (.tup [(.int 2), qw11])]), some (.tup [(.tup [qw1]), (.tup [qw13]), (.tup [qw4]), (.tup [qw8]), (.tup [qw12]), (.tup [qw3, (.int 0)]), (.tup [qw3, (.int 1)]), (.tup [qw7])]), none] (Cup c []) = .ok .non (Cup c []) := by kernel_rfl
theorem s_told_8 (c : Cp) (y : D) : exx (cl 10) LL.G {} (.asg (.n 5) (.bin .add (.v 5) (.lst [(.tup [(.k (.int 2)), (.k qw9), (.tup [(.k qw4)])]), (.tup [(.k (.int 6)), (.k qw9), (.tup [(.k qw3), (.k (.int 0))])]), (.tup [(.k (.int 0)), (.k qw9), (.tup [(.k qw4)])]), (.k .non)]))) [some y, some (.ref 0), some (.tup [(.tup [(.int 2), (.tup [])]), (.int 2), (.tup [(.tup [(.int 0), (.int 1)]), (.tup [(.int 1), (.int 0)])])]), some (.tup [(.tup [(.int 2), (.tup [])]), (.int 2), (.tup [])]), some (.lst [.non, (.tup [(.int 0), qw9, (.tup [qw4])]), (.tup [(.int 1), qw10]), (.tup [(.int 0), qw11]), (.tup [(.tup [qw4]), (.tup [qw12])]), (.tup [(.tup [qw12]), (.tup [qw3, (.int 0)]), (.tup [qw3, (.int 1)]), (.tup [qw7])]), (.tup [(.int 0), qw9, (.tup [qw12])]), (.tup [(.tup [qw4]), (.tup [qw12]), (.tup [qw13]), (.tup [qw8]), (.tup [qw1]), (.tup [qw7])]), (.tup [(.int 1), qw9, (.tup [qw12])]), (.tup [(.int 2), qw11]), (.tup [(.int 2), qw9, (.tup [qw4])]), (.tup [(.int 6), qw9, (.tup [qw3, (.int 0)])]), (.tup [(.int 0), qw9, (.tup [qw4])]), .non]), some (.lst [.non, (.tup [(.int 0), qw9, (.tup [qw4])]), (.tup [(.int 1), qw10]), (.tup [(.int 0), qw11]), (.tup [(.tup [qw4]), (.tup [qw12])]), (.tup [(.tup [qw12]), (.tup [qw3, (.int 0)]), (.tup [qw3, (.int 1)]), (.tup [qw7])]), (.tup [(.int 0), qw9, (.tup [qw12])]), (.tup [(.tup [qw4]), (.tup [qw12]), (.tup [qw13]), (.tup [qw8]), (.tup [qw1]), (.tup [qw7])]), (.tup [(.int 1), qw9, (.tup [qw12])]), (.tup [(.int 2), qw11])]), some (.tup [(.tup [qw1]), (.tup [qw13]), (.tup [qw4]), (.tup [qw8]), (.tup [qw12]), (.tup [qw3, (.int 0)]), (.tup [qw3, (.int 1)]), (.tup [qw7])]), none] (Cup c []) = .nx [some y, some (.ref 0), some (.tup [(.tup [(.int 2), (.tup [])]), (.int 2), (.tup [(.tup [(.int 0), (.int 1)]), (.tup [(.int 1), (.int 0)])])]), some (.tup [(.tup [(.int 2), (.tup [])]), (.int 2), (.tup [])]), some (.lst [.non, (.tup [(.int 0), qw9, (.tup [qw4])]), (.tup [(.int 1), qw10]), (.tup [(.int 0), qw11]), (.tup [(.tup [qw4]), (.tup [qw12])]), (.tup [(.tup [qw12]), (.tup [qw3, (.int 0)]), (.tup [qw3, (.int 1)]), (.tup [qw7])]), (.tup [(.int 0), qw9, (.tup [qw12])]), (.tup [(.tup [qw4]), (.tup [qw12]), (.tup [qw13]), (.tup [qw8]), (.tup [qw1]), (.tup [qw7])]), (.tup [(.int 1), qw9, (.tup [qw12])]), (.tup [(.int 2), qw11]), (.tup [(.int 2), qw9, (.tup [qw4])]), (.tup [(.int 6), qw9, (.tup [qw3, (.int 0)])]), (.tup [(.int 0), qw9, (.tup [qw4])]), .non]), some (.lst [.non, (.tup [(.int 0), qw9, (.tup [qw4])]), (.tup [(.int 1), qw10]), (.tup [(.int 0), qw11]), (.tup [(.tup [qw4]), (.tup [qw12])]), (.tup [(.tup [qw12]), (.tup [qw3, (.int 0)]), (.tup [qw3, (.int 1)]), (.tup [qw7])]), (.tup [(.int 0), qw9, (.tup [qw12])]), (.tup [(.tup [qw4]), (.tup [qw12]), (.tup [qw13]), (.tup [qw8]), (.tup [qw1]), (.tup [qw7])]), (.tup [(.int 1), qw9, (.tup [qw12])]), (.tup [(.int 2), qw11]), (.tup [(.int 2), qw9, (.tup [qw4])]), (.tup [(.int 6), qw9, (.tup [qw3, (.int 0)])]), (.tup [(.int 0), qw9, (.tup [qw4])]), .non]), some (.tup [(.tup [qw1]), (.tup [qw13]), (.tup [qw4]), (.tup [qw8]), (.tup [qw12]), (.tup [qw3, (.int 0)]), (.tup [qw3, (.int 1)]), (.tup [qw7])]), none] (Cup c []) := asg_cl (d := (.lst [.non, (.tup [(.int 0), qw9, (.tup [qw4])]), (.tup [(.int 1), qw10]), (.tup [(.int 0), qw11]), (.tup [(.tup [qw4]), (.tup [qw12])]), (.tup [(.tup [qw12]), (.tup [qw3, (.int 0)]), (.tup [qw3, (.int 1)]), (.tup [qw7])]), (.tup [(.int 0), qw9, (.tup [qw12])]), (.tup [(.tup [qw4]), (.tup [qw12]), (.tup [qw13]), (.tup [qw8]), (.tup [qw1]), (.tup [qw7])]), (.tup [(.int 1), qw9, (.tup [qw12])]), (.tup [(.int 2), qw11]), (.tup [(.int 2), qw9, (.tup [qw4])]), (.tup [(.int 6), qw9, (.tup [qw3, (.int 0)])]), (.tup [(.int 0), qw9, (.tup [qw4])]), .non])) (bin_cl (v_cl rfl) (lst_cl (evs_nx (s_told_8_0 c y) (evs_nx (s_told_8_1 c y) (evs_nx (s_told_8_2 c y) (evs_nx (s_told_8_3 c y) evs_nil0)))) (by decide +kernel)) (by kernel_rfl)) (by kernel_rfl)
theorem s_told (c : Cp) (y : D) : exs (exx (cl 10) LL.G {}) ((b39.body.drop 1).take 8) [some y, some (.ref 0), none, none, none, none, none, none] (Cup c []) = .nx [some y, some (.ref 0), some (.tup [(.tup [(.int 2), (.tup [])]), (.int 2), (.tup [(.tup [(.int 0), (.int 1)]), (.tup [(.int 1), (.int 0)])])]), some (.tup [(.tup [(.int 2), (.tup [])]), (.int 2), (.tup [])]), some (.lst [.non, (.tup [(.int 0), qw9, (.tup [qw4])]), (.tup [(.int 1), qw10]), (.tup [(.int 0), qw11]), (.tup [(.tup [qw4]), (.tup [qw12])]), (.tup [(.tup [qw12]), (.tup [qw3, (.int 0)]), (.tup [qw3, (.int 1)]), (.tup [qw7])]), (.tup [(.int 0), qw9, (.tup [qw12])]), (.tup [(.tup [qw4]), (.tup [qw12]), (.tup [qw13]), (.tup [qw8]), (.tup [qw1]), (.tup [qw7])]), (.tup [(.int 1), qw9, (.tup [qw12])]), (.tup [(.int 2), qw11]), (.tup [(.int 2), qw9, (.tup [qw4])]), (.tup [(.int 6), qw9, (.tup [qw3, (.int 0)])]), (.tup [(.int 0), qw9, (.tup [qw4])]), .non]), some (.lst [.non, (.tup [(.int 0), qw9, (.tup [qw4])]), (.tup [(.int 1), qw10]), (.tup [(.int 0), qw11]), (.tup [(.tup [qw4]), (.tup [qw12])]), (.tup [(.tup [qw12]), (.tup [qw3, (.int 0)]), (.tup [qw3, (.int 1)]), (.tup [qw7])]), (.tup [(.int 0), qw9, (.tup [qw12])]), (.tup [(.tup [qw4]), (.tup [qw12]), (.tup [qw13]), (.tup [qw8]), (.tup [qw1]), (.tup [qw7])]), (.tup [(.int 1), qw9, (.tup [qw12])]), (.tup [(.int 2), qw11]), (.tup [(.int 2), qw9, (.tup [qw4])]), (.tup [(.int 6), qw9, (.tup [qw3, (.int 0)])]), (.tup [(.int 0), qw9, (.tup [qw4])]), .non]), some (.tup [(.tup [qw1]), (.tup [qw13]), (.tup [qw4]), (.tup [qw8]), (.tup [qw12]), (.tup [qw3, (.int 0)]), (.tup [qw3, (.int 1)]), (.tup [qw7])]), none] (Cup c []) := (x_nx (s_told_1 c y) (x_nx (s_told_2 c y) (x_nx (s_told_3 c y) (x_nx (s_told_4 c y) (x_nx (s_told_5 c y) (x_nx (s_told_6 c y) (x_nx (s_told_7 c y) (x_nx (s_told_8 c y) (Y.s_nil _ _ _)))))))))
theorem s_told_like (c : Cp) (y : D) : evx (cl 10) LL.G {} (.call 29 [(.v 4), (.v 5)]) [some y, some (.ref 0), some (.tup [(.tup [(.int 2), (.tup [])]), (.int 2), (.tup [(.tup [(.int 0), (.int 1)]), (.tup [(.int 1), (.int 0)])])]), some (.tup [(.tup [(.int 2), (.tup [])]), (.int 2), (.tup [])]), some (.lst [.non, (.tup [(.int 0), qw9, (.tup [qw4])]), (.tup [(.int 1), qw10]), (.tup [(.int 0), qw11]), (.tup [(.tup [qw4]), (.tup [qw12])]), (.tup [(.tup [qw12]), (.tup [qw3, (.int 0)]), (.tup [qw3, (.int 1)]), (.tup [qw7])]), (.tup [(.int 0), qw9, (.tup [qw12])]), (.tup [(.tup [qw4]), (.tup [qw12]), (.tup [qw13]), (.tup [qw8]), (.tup [qw1]), (.tup [qw7])]), (.tup [(.int 1), qw9, (.tup [qw12])]), (.tup [(.int 2), qw11]), (.tup [(.int 2), qw9, (.tup [qw4])]), (.tup [(.int 6), qw9, (.tup [qw3, (.int 0)])]), (.tup [(.int 0), qw9, (.tup [qw4])]), .non]), some (.lst [.non, (.tup [(.int 0), qw9, (.tup [qw4])]), (.tup [(.int 1), qw10]), (.tup [(.int 0), qw11]), (.tup [(.tup [qw4]), (.tup [qw12])]), (.tup [(.tup [qw12]), (.tup [qw3, (.int 0)]), (.tup [qw3, (.int 1)]), (.tup [qw7])]), (.tup [(.int 0), qw9, (.tup [qw12])]), (.tup [(.tup [qw4]), (.tup [qw12]), (.tup [qw13]), (.tup [qw8]), (.tup [qw1]), (.tup [qw7])]), (.tup [(.int 1), qw9, (.tup [qw12])]), (.tup [(.int 2), qw11]), (.tup [(.int 2), qw9, (.tup [qw4])]), (.tup [(.int 6), qw9, (.tup [qw3, (.int 0)])]), (.tup [(.int 0), qw9, (.tup [qw4])]), .non]), some (.tup [(.tup [qw1]), (.tup [qw13]), (.tup [qw4]), (.tup [qw8]), (.tup [qw12]), (.tup [qw3, (.int 0)]), (.tup [qw3, (.int 1)]), (.tup [qw7])]), none] (Cup c []) = .ok (.bl true) (Cup c []) := by kernel_rfl
end K47
end
section
set_option Elab.async false
set_option linter.all false
set_option maxRecDepth 100000
set_option autoImplicit false
namespace K47
open IT
abbrev depth : Nat := 10
theorem s_head (c : Cp) (y : D) : ∃ t2 t3 t4 t5 t6, exs (exx (cl 10) LL.G {}) ((b39.body.drop 1).take 8) [some y, some (.ref 0), none, none, none, none, none, none] (Cup c []) = .nx [some y, some (.ref 0), t2, t3, t4, t5, t6, none] (Cup c []) ∧ evx (cl 10) LL.G {} (.call 29 [(.v 4), (.v 5)]) [some y, some (.ref 0), t2, t3, t4, t5, t6, none] (Cup c []) = .ok (.bl true) (Cup c []) :=
  ⟨_, _, _, _, _, s_told c y, s_told_like c y⟩
def lawB : List IT.S := [
    .ite (.nt (.call 37 [(.v 1), (.call 30 [(.v 1)])])) [
      .ret (some (.k (.bl false)))] []]
theorem exs_app (f : IT.S → Env → Sto → O) (a b : List IT.S) (δ δ' : Env) (S S' : Sto) : exs f a δ S = .nx δ' S' → exs f (a ++ b) δ S = exs f b δ' S' := by
  induction a generalizing δ S with
  | nil => intro h; rw [Y.s_nil] at h; cases h; rfl
  | cons s a ih =>
    intro h
    rw [List.cons_append, Y.s_cons]
    rw [Y.s_cons] at h
    cases hs : f s δ S with
    | nx δ1 S1 => rw [hs] at h; exact ih δ1 S1 h
    | _ => rw [hs] at h; cases h
theorem math (ns : List Int) (y : D) (hn : ns.length ≤ 63) (hy : y = .scr ns ∨ y = .lst (ns.map D.int)) : ∃ S, (calls LL.Gam LL.Lam LL.G (depth + 1)).ca 39 [y] [] = .ok (.bl true) S := by
  obtain ⟨c, e1⟩ := s_cup (n := 9) ns y hy hn
  obtain ⟨t2, t3, t4, t5, t6, e2, e3⟩ := s_head c y
  have e4 := s_errors c y
  obtain ⟨δ', S', e5, c', t, rfl, rfl⟩ := forl_go (enc := fun (i : Nat) => D.int (i : Int)) (g := stands []) (f := forF (.n 7) (exs (exx (cl 10) LL.G {}) lawB)) (P := fun pre δ S' => ∃ c t, S' = Cup c [] ∧ δ = [some y, some (.ref 0), t2, t3, t4, t5, t6, t]) (List.range 8) (δ := [some y, some (.ref 0), t2, t3, t4, t5, t6, none]) (S := Cup c []) ⟨c, none, rfl, rfl⟩ (fun _ _ _ _ => rfl) (by
    rintro pre i post hp δ S' ⟨c, t, rfl, rfl⟩
    obtain ⟨w, c1, hw, a1⟩ := s_setting (n := 8) (c := c)
    obtain ⟨c2, a2⟩ := s_right (n := 0) c1 w hw
    refine ⟨[some y, some (.ref 0), t2, t3, t4, t5, t6, some (.int i)], Cup c2 [], ?_, c2, _, rfl, rfl⟩
    have k1 := kn37 9
    have k2 := kn30 9
    simp only [Nat.reduceAdd] at a1 a2 k1 k2
    simp only [forF, lawB, evx_v, evx_k, evx_g, evx_bin, evx_cmp, evx_chn, evx_neg, evx_nt, evx_and, evx_or, evx_ite, evx_tup, evx_lst, evx_nlst, evx_ix, evx_sl, evx_rev, evx_app, evx_join, evx_call, evx_callv, evx_lam, evx_bi, evx_isi, exx_asg, exx_setix, exx_ex, exx_ite, exx_ret, exx_ret0, exx_brk, exx_cnt, exx_pas, exx_rai, Y.b_ok, Y.b_ex, Y.o_ok, Y.o_ex, Y.e_nil, Y.e_cons, Y.eo_none, Y.eo_some, Y.s_nil, Y.s_cons, Y.t_bl, Y.t_int, Y.t_tup, Y.t_lst, Y.t_non, Y.x_and, Y.x_or, Y.x_nt, Y.x_v, Y.x_k, Y.x_cmp, Y.x_chn, Y.x_call, Y.x_callv, Y.x_bi, Y.x_isi, Y.x_exi, Y.x_ix, Y.x_bin, Y.p_n, Y.p_t, Y.p_tl, Y.ps_cons, Y.ps_nil, Y.i_v, Y.i_ix, Y.i_tup, Y.i_lst, Y.i_k, Y.i_bin, Y.i_call, Y.i_sl, Y.i_rev, Y.i_lc, Y.i_rng, Y.i_rng2, Y.i_zip, Y.i_enum, Y.q_t, Y.q_l, Y.q_z, Y.q_zt, Y.q_e, Y.sz, Y.a_int, Y.a_tup, Y.a_lst, Y.su_int, Y.mo_int, Y.mu_intR, Y.mu_intL, Y.fd_intS, Y.po_int, Y.c_lt, Y.c_le, Y.c_gt, Y.c_ge, Y.cc_le, Y.cc_lt, Y.c_isn_n, Y.c_isn_b, Y.c_isn_i, Y.c_isn_s, Y.c_isn_t, Y.c_isn_l, Y.c_nisn_n, Y.c_nisn_b, Y.c_nisn_i, Y.c_nisn_s, Y.c_nisn_t, Y.c_nisn_l, Y.c_eq, Y.c_ne, Y.n_tup, Y.n_lst, Y.n_int, Y.n_abs, Y.n_tt, Y.n_tl, Y.n_lt, Y.n_ll, Y.n_gcd, Y.ix_t0, Y.ix_t1, Y.ix_t2, Y.ix_l0, Y.ix_l1, Y.l_tup, Y.l_lst, Y.r_tup, Y.r_lst, List.map_cons, List.map_nil, List.cons_append, List.nil_append, List.replicate, List.getElem?_cons_zero, List.getElem?_cons_succ, List.length_cons, List.length_nil, List.set_cons_zero, List.set_cons_succ, if_true, Bool.false_eq_true, if_false, Bool.not_true, Bool.not_false, Nat.reduceLeDiff, Nat.reduceAdd, k1, k2, a1, a2])
  have k1 := kn25 9
  have k2 := kn38 9
  simp only [Nat.reduceAdd] at e1 e4 k1 k2
  have hr : rngR (.int 0) (.int 8) (Cup c []) = (.ok ((List.range 8).map (fun (i : Nat) => D.int (i : Int)), []) (Cup c []) : IT.R (List D × List (Nat × List D))) := rng_map _ (k := 8) (by decide)
  have h0 : exx (cl 10) LL.G {} (.asg (.n 1) (.call 25 [(.v 0)])) [some y, none, none, none, none, none, none, none] [] = .nx [some y, some (.ref 0), none, none, none, none, none, none] (Cup c []) := by
    simp only [evx_v, evx_k, evx_g, evx_bin, evx_cmp, evx_chn, evx_neg, evx_nt, evx_and, evx_or, evx_ite, evx_tup, evx_lst, evx_nlst, evx_ix, evx_sl, evx_rev, evx_app, evx_join, evx_call, evx_callv, evx_lam, evx_bi, evx_isi, exx_asg, exx_setix, exx_ex, exx_ite, exx_ret, exx_ret0, exx_brk, exx_cnt, exx_pas, exx_rai, Y.b_ok, Y.b_ex, Y.o_ok, Y.o_ex, Y.e_nil, Y.e_cons, Y.eo_none, Y.eo_some, Y.s_nil, Y.s_cons, Y.t_bl, Y.t_int, Y.t_tup, Y.t_lst, Y.t_non, Y.x_and, Y.x_or, Y.x_nt, Y.x_v, Y.x_k, Y.x_cmp, Y.x_chn, Y.x_call, Y.x_callv, Y.x_bi, Y.x_isi, Y.x_exi, Y.x_ix, Y.x_bin, Y.p_n, Y.p_t, Y.p_tl, Y.ps_cons, Y.ps_nil, Y.i_v, Y.i_ix, Y.i_tup, Y.i_lst, Y.i_k, Y.i_bin, Y.i_call, Y.i_sl, Y.i_rev, Y.i_lc, Y.i_rng, Y.i_rng2, Y.i_zip, Y.i_enum, Y.q_t, Y.q_l, Y.q_z, Y.q_zt, Y.q_e, Y.sz, Y.a_int, Y.a_tup, Y.a_lst, Y.su_int, Y.mo_int, Y.mu_intR, Y.mu_intL, Y.fd_intS, Y.po_int, Y.c_lt, Y.c_le, Y.c_gt, Y.c_ge, Y.cc_le, Y.cc_lt, Y.c_isn_n, Y.c_isn_b, Y.c_isn_i, Y.c_isn_s, Y.c_isn_t, Y.c_isn_l, Y.c_nisn_n, Y.c_nisn_b, Y.c_nisn_i, Y.c_nisn_s, Y.c_nisn_t, Y.c_nisn_l, Y.c_eq, Y.c_ne, Y.n_tup, Y.n_lst, Y.n_int, Y.n_abs, Y.n_tt, Y.n_tl, Y.n_lt, Y.n_ll, Y.n_gcd, Y.ix_t0, Y.ix_t1, Y.ix_t2, Y.ix_l0, Y.ix_l1, Y.l_tup, Y.l_lst, Y.r_tup, Y.r_lst, List.map_cons, List.map_nil, List.cons_append, List.nil_append, List.replicate, List.getElem?_cons_zero, List.getElem?_cons_succ, List.length_cons, List.length_nil, List.set_cons_zero, List.set_cons_succ, if_true, Bool.false_eq_true, if_false, Bool.not_true, Bool.not_false, Nat.reduceLeDiff, Nat.reduceAdd, k1, e1]
  have h9 : exx (cl 10) LL.G {} (.ite (.or (.nt (.call 29 [(.v 4), (.v 5)])) (.nt (.call 38 []))) [
    .ret (some (.k (.bl false)))] []) [some y, some (.ref 0), t2, t3, t4, t5, t6, none] (Cup c []) = .nx [some y, some (.ref 0), t2, t3, t4, t5, t6, none] (Cup c []) := by
    have e6 : evx (cl 10) LL.G {} (.call 38 []) [some y, some (.ref 0), t2, t3, t4, t5, t6, none] (Cup c []) = .ok (.bl true) (Cup c []) := by
      simp only [evx_v, evx_k, evx_g, evx_bin, evx_cmp, evx_chn, evx_neg, evx_nt, evx_and, evx_or, evx_ite, evx_tup, evx_lst, evx_nlst, evx_ix, evx_sl, evx_rev, evx_app, evx_join, evx_call, evx_callv, evx_lam, evx_bi, evx_isi, exx_asg, exx_setix, exx_ex, exx_ite, exx_ret, exx_ret0, exx_brk, exx_cnt, exx_pas, exx_rai, Y.b_ok, Y.b_ex, Y.o_ok, Y.o_ex, Y.e_nil, Y.e_cons, Y.eo_none, Y.eo_some, Y.s_nil, Y.s_cons, Y.t_bl, Y.t_int, Y.t_tup, Y.t_lst, Y.t_non, Y.x_and, Y.x_or, Y.x_nt, Y.x_v, Y.x_k, Y.x_cmp, Y.x_chn, Y.x_call, Y.x_callv, Y.x_bi, Y.x_isi, Y.x_exi, Y.x_ix, Y.x_bin, Y.p_n, Y.p_t, Y.p_tl, Y.ps_cons, Y.ps_nil, Y.i_v, Y.i_ix, Y.i_tup, Y.i_lst, Y.i_k, Y.i_bin, Y.i_call, Y.i_sl, Y.i_rev, Y.i_lc, Y.i_rng, Y.i_rng2, Y.i_zip, Y.i_enum, Y.q_t, Y.q_l, Y.q_z, Y.q_zt, Y.q_e, Y.sz, Y.a_int, Y.a_tup, Y.a_lst, Y.su_int, Y.mo_int, Y.mu_intR, Y.mu_intL, Y.fd_intS, Y.po_int, Y.c_lt, Y.c_le, Y.c_gt, Y.c_ge, Y.cc_le, Y.cc_lt, Y.c_isn_n, Y.c_isn_b, Y.c_isn_i, Y.c_isn_s, Y.c_isn_t, Y.c_isn_l, Y.c_nisn_n, Y.c_nisn_b, Y.c_nisn_i, Y.c_nisn_s, Y.c_nisn_t, Y.c_nisn_l, Y.c_eq, Y.c_ne, Y.n_tup, Y.n_lst, Y.n_int, Y.n_abs, Y.n_tt, Y.n_tl, Y.n_lt, Y.n_ll, Y.n_gcd, Y.ix_t0, Y.ix_t1, Y.ix_t2, Y.ix_l0, Y.ix_l1, Y.l_tup, Y.l_lst, Y.r_tup, Y.r_lst, List.map_cons, List.map_nil, List.cons_append, List.nil_append, List.replicate, List.getElem?_cons_zero, List.getElem?_cons_succ, List.length_cons, List.length_nil, List.set_cons_zero, List.set_cons_succ, if_true, Bool.false_eq_true, if_false, Bool.not_true, Bool.not_false, Nat.reduceLeDiff, Nat.reduceAdd, k2, e4]
    rw [exx_ite]
    simp only [Y.x_or, Y.x_nt, Y.x_call, e3, e6, Y.b_ok, Y.t_bl, Y.o_ok, Bool.not_true, Bool.false_eq_true, if_false, Y.s_nil]
  have hF : exx (cl 10) LL.G {} (.for_ (.n 7) (.rng none (.k (.int 8))) lawB) [some y, some (.ref 0), t2, t3, t4, t5, t6, none] (Cup c []) = .nx [some y, some (.ref 0), t2, t3, t4, t5, t6, t] (Cup c' []) := by
    rw [exx_for]
    simp only [evx_v, evx_k, evx_g, evx_bin, evx_cmp, evx_chn, evx_neg, evx_nt, evx_and, evx_or, evx_ite, evx_tup, evx_lst, evx_nlst, evx_ix, evx_sl, evx_rev, evx_app, evx_join, evx_call, evx_callv, evx_lam, evx_bi, evx_isi, exx_asg, exx_setix, exx_ex, exx_ite, exx_ret, exx_ret0, exx_brk, exx_cnt, exx_pas, exx_rai, Y.b_ok, Y.b_ex, Y.o_ok, Y.o_ex, Y.e_nil, Y.e_cons, Y.eo_none, Y.eo_some, Y.s_nil, Y.s_cons, Y.t_bl, Y.t_int, Y.t_tup, Y.t_lst, Y.t_non, Y.x_and, Y.x_or, Y.x_nt, Y.x_v, Y.x_k, Y.x_cmp, Y.x_chn, Y.x_call, Y.x_callv, Y.x_bi, Y.x_isi, Y.x_exi, Y.x_ix, Y.x_bin, Y.p_n, Y.p_t, Y.p_tl, Y.ps_cons, Y.ps_nil, Y.i_v, Y.i_ix, Y.i_tup, Y.i_lst, Y.i_k, Y.i_bin, Y.i_call, Y.i_sl, Y.i_rev, Y.i_lc, Y.i_rng, Y.i_rng2, Y.i_zip, Y.i_enum, Y.q_t, Y.q_l, Y.q_z, Y.q_zt, Y.q_e, Y.sz, Y.a_int, Y.a_tup, Y.a_lst, Y.su_int, Y.mo_int, Y.mu_intR, Y.mu_intL, Y.fd_intS, Y.po_int, Y.c_lt, Y.c_le, Y.c_gt, Y.c_ge, Y.cc_le, Y.cc_lt, Y.c_isn_n, Y.c_isn_b, Y.c_isn_i, Y.c_isn_s, Y.c_isn_t, Y.c_isn_l, Y.c_nisn_n, Y.c_nisn_b, Y.c_nisn_i, Y.c_nisn_s, Y.c_nisn_t, Y.c_nisn_l, Y.c_eq, Y.c_ne, Y.n_tup, Y.n_lst, Y.n_int, Y.n_abs, Y.n_tt, Y.n_tl, Y.n_lt, Y.n_ll, Y.n_gcd, Y.ix_t0, Y.ix_t1, Y.ix_t2, Y.ix_l0, Y.ix_l1, Y.l_tup, Y.l_lst, Y.r_tup, Y.r_lst, List.map_cons, List.map_nil, List.cons_append, List.nil_append, List.replicate, List.getElem?_cons_zero, List.getElem?_cons_succ, List.length_cons, List.length_nil, List.set_cons_zero, List.set_cons_succ, if_true, Bool.false_eq_true, if_false, Bool.not_true, Bool.not_false, Nat.reduceLeDiff, Nat.reduceAdd, hr]
    exact e5
  have hb : b39.body = .asg (.n 1) (.call 25 [(.v 0)]) :: (((b39.body.drop 1).take 8) ++ [.ite (.or (.nt (.call 29 [(.v 4), (.v 5)])) (.nt (.call 38 []))) [
    .ret (some (.k (.bl false)))] [], .for_ (.n 7) (.rng none (.k (.int 8))) lawB, .ret (some (.k (.bl true)))]) := rfl
  have hB : exs (exx (cl 10) LL.G {}) b39.body [some y, none, none, none, none, none, none, none] [] = .rt (.bl true) (Cup c' []) := by
    rw [hb]
    refine x_nx h0 ?_
    rw [exs_app _ _ _ _ _ _ _ e2]
    refine x_nx h9 (x_nx hF (x_rt ?_))
    simp only [evx_v, evx_k, evx_g, evx_bin, evx_cmp, evx_chn, evx_neg, evx_nt, evx_and, evx_or, evx_ite, evx_tup, evx_lst, evx_nlst, evx_ix, evx_sl, evx_rev, evx_app, evx_join, evx_call, evx_callv, evx_lam, evx_bi, evx_isi, exx_asg, exx_setix, exx_ex, exx_ite, exx_ret, exx_ret0, exx_brk, exx_cnt, exx_pas, exx_rai, Y.b_ok, Y.b_ex, Y.o_ok, Y.o_ex, Y.e_nil, Y.e_cons, Y.eo_none, Y.eo_some, Y.s_nil, Y.s_cons, Y.t_bl, Y.t_int, Y.t_tup, Y.t_lst, Y.t_non, Y.x_and, Y.x_or, Y.x_nt, Y.x_v, Y.x_k, Y.x_cmp, Y.x_chn, Y.x_call, Y.x_callv, Y.x_bi, Y.x_isi, Y.x_exi, Y.x_ix, Y.x_bin, Y.p_n, Y.p_t, Y.p_tl, Y.ps_cons, Y.ps_nil, Y.i_v, Y.i_ix, Y.i_tup, Y.i_lst, Y.i_k, Y.i_bin, Y.i_call, Y.i_sl, Y.i_rev, Y.i_lc, Y.i_rng, Y.i_rng2, Y.i_zip, Y.i_enum, Y.q_t, Y.q_l, Y.q_z, Y.q_zt, Y.q_e, Y.sz, Y.a_int, Y.a_tup, Y.a_lst, Y.su_int, Y.mo_int, Y.mu_intR, Y.mu_intL, Y.fd_intS, Y.po_int, Y.c_lt, Y.c_le, Y.c_gt, Y.c_ge, Y.cc_le, Y.cc_lt, Y.c_isn_n, Y.c_isn_b, Y.c_isn_i, Y.c_isn_s, Y.c_isn_t, Y.c_isn_l, Y.c_nisn_n, Y.c_nisn_b, Y.c_nisn_i, Y.c_nisn_s, Y.c_nisn_t, Y.c_nisn_l, Y.c_eq, Y.c_ne, Y.n_tup, Y.n_lst, Y.n_int, Y.n_abs, Y.n_tt, Y.n_tl, Y.n_lt, Y.n_ll, Y.n_gcd, Y.ix_t0, Y.ix_t1, Y.ix_t2, Y.ix_l0, Y.ix_l1, Y.l_tup, Y.l_lst, Y.r_tup, Y.r_lst, List.map_cons, List.map_nil, List.cons_append, List.nil_append, List.replicate, List.getElem?_cons_zero, List.getElem?_cons_succ, List.length_cons, List.length_nil, List.set_cons_zero, List.set_cons_succ, if_true, Bool.false_eq_true, if_false, Bool.not_true, Bool.not_false, Nat.reduceLeDiff, Nat.reduceAdd]
  refine ⟨[], ?_⟩
  have hx := ca_x (L := LL) (n := 10) (i := 39) (f := b39) rfl (by decide +kernel) (by decide +kernel) (ds := [y]) (S := []) (δ := [some y, none, none, none, none, none, none, none]) rfl rfl
  rw [hB] at hx
  exact hx.trans rfl
end K47
end
set_option Elab.async false
set_option linter.all false
set_option maxRecDepth 100000
set_option maxHeartbeats 0
open PySem PySem.W PySem.Calls PyProof.Rows
theorem PySem.Challenge.cw_linessummed_k47_whole_codes_holds : PySem.Challenge.rw_linessummed_k47_whole_codes.Holds := by
  w_on; o_law
  refine HandSHeadRun.head_imp (r := K47.R) (q := K47.qv) (H := K47.hk) (ob := K47.ob) (M := 3000) (loose := K47.loose) (d := HandSHeadRun.topDef K47.R.prog 63) (kwd := []) K47.ob_eq K47.run (by kernel_rfl) (by kernel_rfl) (by rfl) (by rfl) (by first | assumption | decide +kernel) (by decide +kernel) ⟨rfl, rfl, rfl, rfl, rfl, by decide +kernel⟩ ?hw ?hc
  case hw => w_witness2
  case hc =>
    refine LamX.walk_ofTsE (l := PySem.Challenge.rw_linessummed_k47_whole_codes) (n := 63) (k := 2 * (K47.depth + 1)) (x := "script") (CX := fun w => L2N.CX (PySem.Challenge.rw_linessummed_k47_whole_codes).prog w) rfl (by decide) (by kernel_rfl) ⟨rfl, by decide, by decide⟩ ?F (fun w H s e s' z => by obtain ⟨_, _, _, _, _, _, _, _, _, _, _, _, z⟩ := z; exact z)
    intro w mg fa h Y G hmg0
    have hmg : mg (K47.dd 39).name = some (.ref fa) := by
      have e : (HandSHeadRun.topDef K47.R.prog 63).name = (K47.dd 39).name := by kernel_rfl
      rw [← e]
      exact hmg0
    exact IT.LD.law (L := K47.LL) (n := K47.depth) (i := 39) K47.ok Y G (d := K47.dd 39) (r := K47.rr 39) (by kernel_rfl) rfl rfl hmg (by kernel_rfl) (by kernel_rfl) (fun _ _ _ _ _ _ us hl => match us, hl with | [_], _ => rfl) (fun ns y hn hy => K47.math ns y hn hy)
