import PyProof.Rows.All
import Wide.All
import OpenK.AllK
import Wide.FinOn
import HandS.ForMost
import HandS.Wide
import HandS.IsInst
import HandS.Deep
import HandS.Style
import HandS.TupAny
import HandS.Zip
import HandS.WordsExc
import HandS.ExcOwn
import HandS.Conv
import KE.SortData
import HandS.Strs
import HandS.SetKeys
import HandS.TupSets
import HandS.SetFor
import KE.KDictPairs
import HandS.TupLen
import PySem.Challenge.RW_matepoint_k08_what_wishes_let
set_option Elab.async false
set_option linter.all false
set_option maxRecDepth 100000
/-! MIa: the small language: data, store, syntax, evaluator. -/
namespace MI
open PySem

/-- data; lst and dic are things just made that no name holds; frl a list that nobody writes (the script); ktp a tuple of the module's own -/
inductive D where
  | non | bl (b : Bool) | int (i : Int) | str (s : List Nat) | tup (xs : List D) | ref (h : Nat) | lst (xs : List D) | dic (t : Bool) (ks vs : List D) | frl (xs : List D) | ktp (xs : List D)

/-- what stands in the store -/
inductive MO where
  | lst (xs : List D) | dic (t : Bool) (ks vs : List D) | ins (c : Nat) (fs : List (Nat × D))

abbrev Sto := List MO
abbrev Env := List (Option D)
structure Ex where
  cls : Nat
  fs : List (Nat × D)
inductive Res (α : Type) where
  | ok (a : α) (M : Sto) | exc (x : Ex) (M : Sto) | stuck
def Res.bind {α β : Type} (r : Res α) (f : α → Sto → Res β) : Res β := match r with
  | .ok a M => f a M
  | .exc x M => .exc x M
  | .stuck => .stuck
/-- where nothing may be raised -/
def Res.noX {α : Type} (r : Res α) : Res α := match r with
  | .ok a M => .ok a M
  | _ => .stuck
@[simp] theorem noX_ok {α : Type} (a : α) (M : Sto) : (Res.ok a M).noX = .ok a M := rfl
@[simp] theorem bind_ok {α β : Type} (a : α) (M : Sto) (f : α → Sto → Res β) : (Res.ok a M).bind f = f a M := rfl
@[simp] theorem bind_exc {α β : Type} (x : Ex) (M : Sto) (f : α → Sto → Res β) : (Res.exc x M).bind f = .exc x M := rfl
@[simp] theorem bind_stuck {α β : Type} (f : α → Sto → Res β) : (Res.stuck : Res α).bind f = .stuck := rfl

inductive BOp where | add | sub | mul | fdiv | mod | pow
inductive COp where | eq | ne | lt | le | gt | ge | isO | isnt | inO | notin
inductive BI where | len | all | any | sum | min2 | max2 | minL | int | str | tuple | list | sorted | lenset | sortset | dict
inductive BM where | append | pop | popAt | extend | insert | count | reverse | clear | join | split | partition | replace | upper | get | get2 | values | update | index
inductive Ty where | tint | tbool | tstr | ttuple | tlist | tdict

inductive Tg where | one (i : Nat) | tup (is : List Nat)

mutual
inductive C where
  | var (i : Nat) | int (i : Int) | str (s : List Nat) | bl (b : Bool) | non | glob (g : Nat)
  | bin (op : BOp) (a b : C) | neg (a : C)
  | cmp (op : COp) (a b : C) | cmp2 (o p : COp) (a b c : C)
  | and (a b : C) | or (a b : C) | not (a : C)
  | tup (xs : CL) | lst (xs : CL) | dic (ks vs : CL)
  | ix (a b : C) | sl (l h : Bool) (a lo hi : C) | rev (a : C)
  | comp (e : C) (tg : Tg) (it : I) (cond : C) (own : List Nat)
  | call (f : Nat) (args : CL)
  | bi (b : BI) (args : CL)
  | meth (m : BM) (o : C) (args : CL)
  | isi (a : C) (t : Ty)
  | fld (o : C) (f : Nat) | omth (m : Nat) (o : C) (args : CL) | new (c : Nat) (args : CL)
  | exis (cs : List Nat) | exfld (f : Nat)
inductive CL where
  | nil | cons (c : C) (r : CL)
inductive I where
  | it (a : C) | range1 (a : C) | range2 (a b : C) | enum (a : C) | zip (args : CL)
end

inductive S where
  | asg (i : Nat) (e : C) | asgT (is : List Nat) (e : C) | asgIx (o i e : C) | augIx (op : BOp) (o i e : C) | asgFld (o : C) (f : Nat) (e : C)
  | expr (e : C) | ret (e : C) | ife (c : C) (a b : S) | for_ (tg : Tg) (it : I) (body : S) | whl (c : C) (body : S)
  | pass | brk | cnt | raise (c : Nat) (args : CL) | try_ (body : S) (cs : List (Nat)) (suite : S)
  | seq (a b : S) | nop

inductive SRes where
  | nx (σ : Env) (M : Sto) | ret (d : D) (M : Sto) | brk (σ : Env) (M : Sto) | cnt (σ : Env) (M : Sto) | exc (x : Ex) (σ : Env) (M : Sto) | stuck
def Res.then {α : Type} (r : Res α) (σ : Env) (k : α → Sto → SRes) : SRes := match r with
  | .ok a M => k a M
  | .exc x M => .exc x σ M
  | .stuck => .stuck
@[simp] theorem then_ok {α : Type} (a : α) (M : Sto) (σ : Env) (k : α → Sto → SRes) : (Res.ok a M).then σ k = k a M := rfl
@[simp] theorem then_exc {α : Type} (x : Ex) (M : Sto) (σ : Env) (k : α → Sto → SRes) : (Res.exc x M : Res α).then σ k = .exc x σ M := rfl
@[simp] theorem then_stuck {α : Type} (σ : Env) (k : α → Sto → SRes) : (Res.stuck : Res α).then σ k = .stuck := rfl
def SRes.andThen (r : SRes) (k : Env → Sto → SRes) : SRes := match r with
  | .nx σ M => k σ M
  | .ret d M => .ret d M
  | .brk σ M => .brk σ M
  | .cnt σ M => .cnt σ M
  | .exc x σ M => .exc x σ M
  | .stuck => .stuck
@[simp] theorem andThen_nx (σ : Env) (M : Sto) (k : Env → Sto → SRes) : (SRes.nx σ M).andThen k = k σ M := rfl
@[simp] theorem andThen_ret (d : D) (M : Sto) (k : Env → Sto → SRes) : (SRes.ret d M).andThen k = .ret d M := rfl
@[simp] theorem andThen_exc (x : Ex) (σ : Env) (M : Sto) (k : Env → Sto → SRes) : (SRes.exc x σ M).andThen k = .exc x σ M := rfl
@[simp] theorem andThen_brk (σ : Env) (M : Sto) (k : Env → Sto → SRes) : (SRes.brk σ M).andThen k = .brk σ M := rfl
@[simp] theorem andThen_cnt (σ : Env) (M : Sto) (k : Env → Sto → SRes) : (SRes.cnt σ M).andThen k = .cnt σ M := rfl

structure FnI where
  name : Str
  ps : List Str
  N : List Str
  body : S

/-! ### operations -/
def LINE : Nat := 16777216
def lim {α : Type} (n : Nat) (r : Res α) : Res α := if n ≤ LINE then r else .stuck

/-- the items of a list or a tuple -/
def items (M : Sto) : D → Option (List D)
  | .lst xs => some xs
  | .frl xs => some xs
  | .ktp xs => some xs
  | .tup xs => some xs
  | .ref h => match M[h]? with
    | some (.lst xs) => some xs
    | _ => none
  | _ => none
/-- the items of a list that may be written -/
def lstOf (M : Sto) : D → Option (List D)
  | .lst xs => some xs
  | .ref h => match M[h]? with
    | some (.lst xs) => some xs
    | _ => none
  | _ => none
def isTup : D → Bool
  | .tup _ => true
  | .ktp _ => true
  | _ => false
def ofO {α β : Type} (o : Option α) (k : α → Res β) : Res β := match o with
  | some a => k a
  | none => .stuck
@[simp] theorem ofO_some {α β : Type} (a : α) (k : α → Res β) : ofO (some a) k = k a := rfl

/-- as plain data -/
def pd : D → PyData
  | .non => .none
  | .bl b => .bool b
  | .int i => .int i
  | .str s => .str ⟨s.toArray⟩
  | .tup xs => .tuple (xs.map pd)
  | .lst xs => .list (xs.map pd)
  | _ => .none
def isI : D → Bool
  | .int _ => true
  | _ => false
def isS : D → Bool
  | .str _ => true
  | _ => false
/-- a pair whose first is a key -/
def pairD : D → Bool
  | .tup [.int _, _] => true
  | .tup [.str _, _] => true
  | _ => false
def pairsD (xs : List D) : Bool := xs.all pairD
/-- it is not just made -/
def homed : D → Bool
  | .lst _ => false
  | .dic _ _ _ => false
  | _ => true
def home (d : D) (M : Sto) : Res D := match d with
  | .lst xs => .ok (.ref M.length) (M ++ [.lst xs])
  | .dic t ks vs => .ok (.ref M.length) (M ++ [.dic t ks vs])
  | d => .ok d M

def binop (op : BOp) (x y : D) (M : Sto) : Res D := match op, x, y with
  | .add, .int i, .int j => .ok (.int (i + j)) M
  | .sub, .int i, .int j => .ok (.int (i - j)) M
  | .mul, .int i, .int j => if i.natAbs.log2 + j.natAbs.log2 < 1000000 then .ok (.int (i * j)) M else .stuck
  | .fdiv, .int i, .int j => if 0 < j ∧ j.natAbs.log2 < 9000 then .ok (.int (i / j)) M else .stuck
  | .mod, .int i, .int j => if 0 < j then .ok (.int (i % j)) M else .stuck
  | .pow, .int i, .int j => if 0 ≤ j ∧ j ≤ 1000000 ∧ i.natAbs < 18446744073709551616 then .ok (.int (i ^ j.toNat)) M else .stuck
  | .add, .str s, .str t => lim (s.length + t.length) (.ok (.str (s ++ t)) M)
  | .add, .tup s, .tup t => lim (s.length + t.length) (if pairsD (s ++ t) = true then .stuck else .ok (.tup (s ++ t)) M)
  | .add, x, y => ofO (lstOf M x) fun xs => ofO (lstOf M y) fun ys => lim (xs.length + ys.length) (.ok (.lst (xs ++ ys)) M)
  | .mul, x, .int k => ofO (lstOf M x) fun xs => if -9223372036854775808 ≤ k ∧ k < 9223372036854775808 then lim (xs.length * k.toNat) (.ok (.lst (List.replicate k.toNat xs).flatten) M) else .stuck
  | _, _, _ => .stuck

/-- lists that stand in the store told by their items -/
def rs : Nat → Sto → D → D
  | 0, _, d => d
  | n + 1, M, .ref h => match M[h]? with
    | some (.lst xs) => .lst (xs.map (rs n M))
    | _ => .ref h
  | n + 1, M, .tup xs => .tup (xs.map (rs n M))
  | n + 1, M, .lst xs => .lst (xs.map (rs n M))
  | _, _, d => d
/-- plain data through and through, less than n deep -/
def dat : Nat → D → Bool
  | _, .non => true
  | _, .bl _ => true
  | _, .int _ => true
  | _, .str s => s.all fun c => decide (c < 1114112)
  | n + 1, .tup xs => xs.all (dat n)
  | n + 1, .lst xs => xs.all (dat n)
  | _, _ => false
mutual
def deq : D → D → Bool
  | .non, .non => true
  | .bl a, .bl b => a == b
  | .bl a, .int j => (if a then 1 else 0) == j
  | .int i, .bl b => i == (if b then 1 else 0)
  | .int i, .int j => i == j
  | .str x, .str y => x == y
  | .lst xs, .lst ys => deqs xs ys
  | .tup xs, .tup ys => deqs xs ys
  | _, _ => false
def deqs : List D → List D → Bool
  | [], [] => true
  | x :: xs, y :: ys => deq x y && deqs xs ys
  | _, _ => false
end
def flat : D → Bool
  | .non => true
  | .bl _ => true
  | .int _ => true
  | .str _ => true
  | _ => false
/-- == -/
def eqO (M : Sto) (x y : D) : Option Bool := match x, y with
  | .int i, .int j => some (decide (i = j))
  | .str s, .str t => some (decide (s = t))
  | .bl a, .bl b => some (decide (a = b))
  | .non, .non => some true
  | .non, .int _ => some false
  | .int _, .non => some false
  | .non, .str _ => some false
  | .str _, .non => some false
  | .non, .bl _ => some false
  | .bl _, .non => some false
  | .int _, .str _ => some false
  | .str _, .int _ => some false
  | .bl _, .str _ => some false
  | .str _, .bl _ => some false
  | x, y => if dat 60 (rs 8 M x) = true ∧ dat 60 (rs 8 M y) = true then some (deq (rs 8 M x) (rs 8 M y)) else none
def keyOk : D → Bool
  | .int _ => true
  | .str _ => true
  | _ => false
/-- a tuple of numbers and texts -/
def keyT : D → Bool
  | .tup xs => xs.all keyOk && !xs.isEmpty
  | _ => false
/-- may be asked of a dict -/
def keyFor (t : Bool) (x : D) : Bool := if t then keyT x else keyOk x
/-- a dict's flavour (numbers and texts, or tuples of them), keys and values -/
def dicOf (M : Sto) : D → Option (Bool × List D × List D)
  | .dic t ks vs => some (t, ks, vs)
  | .ref h => match M[h]? with
    | some (.dic t ks vs) => some (t, ks, vs)
    | _ => none
  | _ => none
def dget (k : D) : List D → List D → Option D
  | k' :: ks, v :: vs => if deq k' k = true then some v else dget k ks vs
  | _, _ => none
def inO (M : Sto) (x y : D) : Option Bool := match x, y with
  | .str [c], .str s => some (decide (c ∈ s))
  | x, y => match dicOf M y with
    | some (t, ks, vs) => if keyFor t x = true then some (dget x ks vs).isSome else none
    | none => match items M y with
      | some xs => if flat x = true ∧ xs.all flat = true then some (xs.any fun z => deq z x)
          else if isTup y = false ∧ dat 60 (rs 8 M x) = true ∧ dat 60 (rs 8 M y) = true then some ((xs.map (rs 7 M)).any fun z => deq z (rs 8 M x)) else none
      | none => none
def cmpop (op : COp) (x y : D) (M : Sto) : Res D := match op with
  | .eq => ofO (eqO M x y) fun b => .ok (.bl b) M
  | .ne => ofO (eqO M x y) fun b => .ok (.bl (!b)) M
  | .inO => ofO (inO M x y) fun b => .ok (.bl b) M
  | .notin => ofO (inO M x y) fun b => .ok (.bl (!b)) M
  | .isO => match x, y with
    | .non, .non => .ok (.bl true) M
    | .bl a, .bl b => .ok (.bl (decide (a = b))) M
    | _, .non => .ok (.bl false) M
    | _, _ => .stuck
  | .isnt => match x, y with
    | .non, .non => .ok (.bl false) M
    | .bl a, .bl b => .ok (.bl (!decide (a = b))) M
    | _, .non => .ok (.bl true) M
    | _, _ => .stuck
  | .lt => match x, y with
    | .int i, .int j => .ok (.bl (decide (i < j))) M
    | .str s, .str t => .ok (.bl (decide (s < t))) M
    | _, _ => .stuck
  | .le => match x, y with
    | .int i, .int j => .ok (.bl (decide (i ≤ j))) M
    | _, _ => .stuck
  | .gt => match x, y with
    | .int i, .int j => .ok (.bl (decide (j < i))) M
    | _, _ => .stuck
  | .ge => match x, y with
    | .int i, .int j => .ok (.bl (decide (j ≤ i))) M
    | _, _ => .stuck

/-- the place that an index means among n -/
def ixN (n : Nat) (i : Int) : Option Nat := if 0 ≤ i then (if i < n then some i.toNat else none) else if -(n : Int) ≤ i then some (i + n).toNat else none
def atI {α : Type} (xs : List α) (i : Int) : Option α := (ixN xs.length i).bind fun j => xs[j]?
def ixop (x y : D) (M : Sto) : Res D := match dicOf M x with
  | some (t, ks, vs) => if keyFor t y = true then ofO (dget y ks vs) fun v => .ok v M else .stuck
  | none => match x, y with
    | .str s, .int i => lim s.length (ofO (atI s i) fun c => .ok (.str [c]) M)
    | x, .int i => ofO (items M x) fun xs => ofO (atI xs i) fun d => .ok d M
    | _, _ => .stuck
def sIx (n d : Nat) : Option Int → Nat
  | none => d
  | some v => if v < 0 then (v + (n : Int)).toNat else min v.toNat n
def cut {α : Type} (xs : List α) (lo hi : Option Int) : List α := (xs.drop (sIx xs.length 0 lo)).take (sIx xs.length xs.length hi - sIx xs.length 0 lo)
def slop (x : D) (lo hi : Option Int) (M : Sto) : Res D := match x with
  | .str s => lim s.length (.ok (.str (cut s lo hi)) M)
  | .tup xs => if pairsD (cut xs lo hi) = true then .stuck else .ok (.tup (cut xs lo hi)) M
  | .ktp _ => .stuck
  | x => ofO (items M x) fun xs => .ok (.lst (cut xs lo hi)) M
def revop (x : D) (M : Sto) : Res D := match x with
  | .tup _ => .stuck
  | .ktp _ => .stuck
  | x => ofO (items M x) fun xs => .ok (.lst xs.reverse) M

def blsOf : List D → Option (List Bool)
  | [] => some []
  | .bl b :: r => (blsOf r).map (b :: ·)
  | _ :: _ => none
def intsOf : List D → Option (List Int)
  | [] => some []
  | .int b :: r => (intsOf r).map (b :: ·)
  | _ :: _ => none
def strsOf : List D → Option (List (List Nat))
  | [] => some []
  | .str b :: r => (strsOf r).map (b :: ·)
  | _ :: _ => none
def lstItems (M : Sto) (x : D) : Option (List D) := if isTup x = true then none else items M x
def minI : List Int → Int
  | [] => 0
  | [a] => a
  | a :: r => if minI r < a then minI r else a
def dedD (xs : List D) : List D := xs.foldl (fun l x => if (l.any fun z => deq z x) = true then l else l ++ [x]) []
noncomputable def sortD (xs : List D) : List D := xs.mergeSort (PySem.W.dataLe false pd)
def putP (ps : List (D × D)) (k v : D) : List (D × D) := if (ps.any fun p => deq p.1 k) = true then ps.map (fun p => if deq p.1 k = true then (p.1, v) else p) else ps ++ [(k, v)]
def pairP : List D → List (D × D)
  | [] => []
  | .tup [k, v] :: r => (k, v) :: pairP r
  | _ :: r => pairP r
def mergeP (ps : List (D × D)) : List (D × D) := ps.foldl (fun acc p => putP acc p.1 p.2) []
noncomputable def bi (b : BI) (ds : List D) (M : Sto) : Res D := match b, ds with
  | .len, [.str s] => lim s.length (.ok (.int s.length) M)
  | .len, [x] => match dicOf M x with
    | some (_, ks, _) => .ok (.int ks.length) M
    | none => ofO (items M x) fun xs => .ok (.int xs.length) M
  | .all, [x] => ofO (items M x) fun xs => ofO (blsOf xs) fun bs => .ok (.bl (bs.all id)) M
  | .any, [x] => ofO (items M x) fun xs => ofO (blsOf xs) fun bs => .ok (.bl (bs.any id)) M
  | .sum, [x] => ofO (lstItems M x) fun xs => ofO (intsOf xs) fun ns => .ok (.int ns.sum) M
  | .min2, [.int i, .int j] => .ok (.int (if j < i then j else i)) M
  | .max2, [.int i, .int j] => .ok (.int (if j > i then j else i)) M
  | .minL, [x] => ofO (lstItems M x) fun xs => ofO (intsOf xs) fun ns => if ns = [] then .stuck else .ok (.int (minI ns)) M
  | .int, [.int i] => .ok (.int i) M
  | .int, [.bl k] => .ok (.int (if k then 1 else 0)) M
  | .tuple, [.tup xs] => .ok (.tup xs) M
  | .tuple, [.ktp xs] => .ok (.ktp xs) M
  | .tuple, [x] => ofO (items M x) fun xs => .ok (.tup xs) M
  | .list, [x] => ofO (items M x) fun xs => .ok (.lst xs) M
  | .lenset, [x] => ofO (lstItems M x) fun xs => if xs.all keyOk = true ∧ xs.length < 4000 then .ok (.int (dedD xs).length) M else .stuck
  | .sortset, [x] => ofO (lstItems M x) fun xs => if (xs.all isI = true ∨ xs.all isS = true) ∧ xs.length < 4000 then .ok (.lst (sortD (dedD xs))) M else .stuck
  | .dict, [.ktp _] => .stuck
  | .dict, [x] => ofO (items M x) fun xs => if pairsD xs = true ∧ xs.length < 4000 then .ok (.dic false ((mergeP (pairP xs)).map (·.1)) ((mergeP (pairP xs)).map (·.2))) M else .stuck
  | _, _ => .stuck
def setM (M : Sto) (h : Nat) (o : MO) : Sto := M.set h o
def meth (m : BM) (x : D) (ds : List D) (M : Sto) : Res D := match m, x, ds with
  | .append, .ref h, [d] => match M[h]? with
    | some (.lst xs) => if xs.length < LINE then .ok .non (M.set h (.lst (xs ++ [d]))) else .stuck
    | _ => .stuck
  | .get, x, [d] => ofO (dicOf M x) fun p => if keyFor p.1 d = true then .ok ((dget d p.2.1 p.2.2).getD .non) M else .stuck
  | .count, x, [d] => ofO (lstItems M x) fun xs => if flat d = true ∧ xs.all flat = true then .ok (.int ((xs.countP fun z => deq z d : Nat) : Int)) M else .stuck
  | _, _, _ => .stuck
/-- of which kind a method's object is -/
inductive MT where | lst | str | dic
def BM.ty : BM → MT
  | .join => .str
  | .split => .str
  | .partition => .str
  | .replace => .str
  | .upper => .str
  | .get => .dic
  | .get2 => .dic
  | .values => .dic
  | .update => .dic
  | _ => .lst
def isMT (t : MT) (x : D) (M : Sto) : Bool := match t with
  | .lst => (lstItems M x).isSome
  | .str => match x with | .str _ => true | _ => false
  | .dic => (dicOf M x).isSome
def setix (o i v : D) (M : Sto) : Option Sto := match o, i with
  | .ref h, .int k => match M[h]? with
    | some (.lst xs) => (ixN xs.length k).map fun j => M.set h (.lst (xs.set j v))
    | _ => none
  | _, _ => none
def isTy (M : Sto) (t : Ty) (x : D) : Option Bool := match t, x with
  | .tbool, .bl _ => some true
  | .tint, .bl _ => some true
  | .tint, .int _ => some true
  | .tstr, .str _ => some true
  | .ttuple, .tup _ => some true
  | .tlist, .lst _ => some true
  | .tlist, .frl _ => some true
  | t, .ref h => match t, M[h]? with
    | .tlist, some (.lst _) => some true
    | _, some (.lst _) => some false
    | _, _ => none
  | _, .dic _ _ _ => none
  | _, .ktp _ => none
  | _, _ => some false

/-- by a truth -/
def onB {α : Type} (d : D) (t f : Res α) : Res α := match d with
  | .bl true => t
  | .bl false => f
  | _ => .stuck
@[simp] theorem onB_bl {α : Type} (b : Bool) (t f : Res α) : onB (.bl b) t f = if b = true then t else f := by cases b <;> rfl
def onS (d : D) (t f : SRes) : SRes := match d with
  | .bl true => t
  | .bl false => f
  | _ => .stuck
@[simp] theorem onS_bl (b : Bool) (t f : SRes) : onS (.bl b) t f = if b = true then t else f := by cases b <;> rfl
def onI {α : Type} (d : D) (k : Int → Res α) : Res α := match d with
  | .int i => k i
  | _ => .stuck
@[simp] theorem onI_int {α : Type} (i : Int) (k : Int → Res α) : onI (.int i) k = k i := rfl
def ofS {α : Type} (o : Option α) (k : α → SRes) : SRes := match o with
  | some a => k a
  | none => .stuck
@[simp] theorem ofS_some {α : Type} (a : α) (k : α → SRes) : ofS (some a) k = k a := rfl
/-! ### what is walked -/
/-- a list by a name must stay as it is while it is walked -/
abbrev Gd := Option (Nat × List D)
def okG (g : Gd) (M : Sto) : Prop := match g with
  | none => True
  | some (h, xs) => M[h]? = some (.lst xs)
def itOf (d : D) (M : Sto) : Option (List D × Gd) := match d with
  | .lst xs => some (xs, none)
  | .tup xs => some (xs, none)
  | .frl xs => some (xs, none)
  | .ktp xs => some (xs, none)
  | .str s => some (s.map fun c => .str [c], none)
  | .ref h => match M[h]? with
    | some (.lst xs) => some (xs, some (h, xs))
    | _ => none
  | _ => none
def rngD (lo : Int) (n : Nat) : List D := (List.range n).map fun (k : Nat) => D.int (lo + (k : Int))
def numbered : Int → List D → List D
  | _, [] => []
  | k, x :: xs => .tup [.int k, x] :: numbered (k + 1) xs
def bindTg (tg : Tg) (d : D) (σ : Env) : Option Env := match tg, d with
  | .one i, d => some (σ.set i (some d))
  | .tup is, .tup xs => if xs.length = is.length then some ((is.zip xs).foldl (fun σ p => σ.set p.1 (some p.2)) σ) else none
  | _, _ => none
def wipeD (σ : Env) : List Nat → Env
  | [] => σ
  | v :: vs => (wipeD σ vs).set v none
open Classical in
noncomputable def compL (ev : Env → Sto → Res (Option D)) (tg : Tg) (g : Gd) (σ : Env) : List D → Sto → Res (List D)
  | [], M => if okG g M then .ok [] M else .stuck
  | x :: xs, M => if okG g M then ofO (bindTg tg x σ) fun σ' => (ev σ' M).noX.bind fun o M' => (compL ev tg g σ xs M').bind fun r M'' => .ok (match o with | some d => d :: r | none => r) M'' else .stuck
open Classical in
noncomputable def forL (body : Env → Sto → SRes) (tg : Tg) (g : Gd) : List D → Env → Sto → SRes
  | [], σ, M => if okG g M then .nx σ M else .stuck
  | x :: xs, σ, M => if okG g M then (match bindTg tg x σ with
    | some σ' => (match body σ' M with
      | .nx σ2 M2 => forL body tg g xs σ2 M2
      | .cnt σ2 M2 => forL body tg g xs σ2 M2
      | .brk σ2 M2 => .nx σ2 M2
      | r => r)
    | none => .stuck) else .stuck
def whlL (c : Env → Sto → Res D) (body : Env → Sto → SRes) : Nat → Env → Sto → SRes
  | 0, _, _ => .stuck
  | n + 1, σ, M => (c σ M).then σ fun b M1 => onS b (match body σ M1 with
      | .nx σ2 M2 => whlL c body n σ2 M2
      | .cnt σ2 M2 => whlL c body n σ2 M2
      | .brk σ2 M2 => .nx σ2 M2
      | r => r) (.nx σ M1)

structure Orc where
  call : Nat → List D → Sto → Res D
  glob : Nat → Option D
  mth : Nat → Nat → Option Nat
  ini : Nat → Option Nat
  sub : Nat → Nat → Bool
  wf : Nat

def asPart (d : D) (M : Sto) : Res (Option Int) := onI d fun i => .ok (some i) M
/-- the element of a turn -/
def turnC (ec ee : Env → Sto → Res D) (σ : Env) (M : Sto) : Res (Option D) := (ec σ M).bind fun b M2 => onB b ((ee σ M2).bind fun d M3 => (home d M3).bind fun d' M4 => .ok (some d') M4) (.ok none M2)
def getV : Option (Option D) → Sto → Res D
  | some (some d), M => .ok d M
  | _, _ => .stuck
@[simp] theorem getV_some (d : D) (M : Sto) : getV (some (some d)) M = .ok d M := rfl
mutual
noncomputable def evE (O : Orc) (ex : Option Ex) : C → Env → Sto → Res D
  | .var i, σ, M => getV σ[i]? M
  | .int i, _, M => .ok (.int i) M
  | .str s, _, M => .ok (.str s) M
  | .bl b, _, M => .ok (.bl b) M
  | .non, _, M => .ok .non M
  | .glob g, _, M => ofO (O.glob g) fun d => .ok d M
  | .bin op a b, σ, M => (evE O ex a σ M).bind fun x M1 => (evE O ex b σ M1).bind fun y M2 => binop op x y M2
  | .neg a, σ, M => (evE O ex a σ M).bind fun x M1 => onI x fun i => .ok (.int (-i)) M1
  | .cmp op a b, σ, M => (evE O ex a σ M).bind fun x M1 => (evE O ex b σ M1).bind fun y M2 => cmpop op x y M2
  | .cmp2 o p a b c, σ, M => (evE O ex a σ M).bind fun x M1 => (evE O ex b σ M1).bind fun y M2 => (cmpop o x y M2).bind fun k M3 => onB k ((evE O ex c σ M3).bind fun z M4 => cmpop p y z M4) (.ok (.bl false) M3)
  | .and a b, σ, M => (evE O ex a σ M).bind fun x M1 => onB x (evE O ex b σ M1) (.ok (.bl false) M1)
  | .or a b, σ, M => (evE O ex a σ M).bind fun x M1 => onB x (.ok (.bl true) M1) (evE O ex b σ M1)
  | .not a, σ, M => (evE O ex a σ M).bind fun x M1 => onB x (.ok (.bl false) M1) (.ok (.bl true) M1)
  | .tup xs, σ, M => (evH O ex xs σ M).bind fun ds M1 => lim ds.length (.ok (.tup ds) M1)
  | .lst xs, σ, M => (evH O ex xs σ M).bind fun ds M1 => lim ds.length (.ok (.lst ds) M1)
  | .dic _ _, _, _ => .stuck
  | .ix a b, σ, M => (evE O ex a σ M).bind fun x M1 => (evE O ex b σ M1).bind fun y M2 => ixop x y M2
  | .sl l h a lo hi, σ, M => (evE O ex a σ M).bind fun x M1 =>
      (if l = true then (evE O ex lo σ M1).bind asPart else .ok none M1).bind fun lo' M2 => (if h = true then (evE O ex hi σ M2).bind asPart else .ok none M2).bind fun hi' M3 => slop x lo' hi' M3
  | .rev a, σ, M => (evE O ex a σ M).bind fun x M1 => revop x M1
  | .comp e tg it cond own, σ, M => (evI O ex it σ M).bind fun p M1 => if p.1.length < LINE then
      (compL (turnC (fun σ' M' => evE O ex cond σ' M') fun σ' M' => evE O ex e σ' M') tg p.2 (wipeD σ own) p.1 M1).bind fun ds M2 => .ok (.lst ds) M2 else .stuck
  | .call f args, σ, M => (evH O ex args σ M).bind fun ds M1 => O.call f ds M1
  | .bi b args, σ, M => (evA O ex args σ M).bind fun ds M1 => bi b ds M1
  | .meth m o args, σ, M => (evE O ex o σ M).bind fun x M1 => if isMT m.ty x M1 = true then (evH O ex args σ M1).bind fun ds M2 => meth m x ds M2 else .stuck
  | .isi a t, σ, M => (evE O ex a σ M).bind fun x M1 => ofO (isTy M1 t x) fun b => .ok (.bl b) M1
  | .fld _ _, _, _ => .stuck
  | .omth _ _ _, _, _ => .stuck
  | .new _ _, _, _ => .stuck
  | .exis _, _, _ => .stuck
  | .exfld _, _, _ => .stuck
noncomputable def evH (O : Orc) (ex : Option Ex) : CL → Env → Sto → Res (List D)
  | .nil, _, M => .ok [] M
  | .cons c r, σ, M => (evE O ex c σ M).bind fun d M1 => (home d M1).bind fun d' M2 => (evH O ex r σ M2).bind fun ds M3 => .ok (d' :: ds) M3
noncomputable def evA (O : Orc) (ex : Option Ex) : CL → Env → Sto → Res (List D)
  | .nil, _, M => .ok [] M
  | .cons c r, σ, M => (evE O ex c σ M).bind fun d M1 => (evA O ex r σ M1).bind fun ds M3 => .ok (d :: ds) M3
noncomputable def evI (O : Orc) (ex : Option Ex) : I → Env → Sto → Res (List D × Gd)
  | .it a, σ, M => (evE O ex a σ M).bind fun d M1 => ofO (itOf d M1) fun p => .ok p M1
  | .range1 a, σ, M => (evE O ex a σ M).bind fun d M1 => onI d fun n => if -4611686018427387904 ≤ n ∧ n < 4611686018427387904 then .ok (rngD 0 n.toNat, none) M1 else .stuck
  | .range2 a b, σ, M => (evE O ex a σ M).bind fun d M1 => (evE O ex b σ M1).bind fun e M2 => onI d fun m => onI e fun n =>
      if -4611686018427387904 ≤ m ∧ m < 4611686018427387904 ∧ -4611686018427387904 ≤ n ∧ n < 4611686018427387904 then .ok (rngD m (n - m).toNat, none) M2 else .stuck
  | .enum _, _, _ => .stuck
  | .zip _, _, _ => .stuck
end

noncomputable def evS (O : Orc) (ex : Option Ex) : S → Env → Sto → SRes
  | .asg i e, σ, M => (evE O ex e σ M).then σ fun d M1 => (home d M1).then σ fun d' M2 => .nx (σ.set i (some d')) M2
  | .asgT is e, σ, M => (evE O ex e σ M).then σ fun d M1 => ofS (bindTg (.tup is) d σ) fun σ' => .nx σ' M1
  | .asgIx o i e, σ, M => (evE O ex e σ M).then σ fun d M1 => (home d M1).then σ fun d' M2 => (evE O ex o σ M2).then σ fun x M3 => (evE O ex i σ M3).then σ fun y M4 => ofS (setix x y d' M4) fun M5 => .nx σ M5
  | .augIx _ _ _ _, _, _ => .stuck
  | .asgFld _ _ _, _, _ => .stuck
  | .expr e, σ, M => (evE O ex e σ M).then σ fun _ M1 => .nx σ M1
  | .ret e, σ, M => (evE O ex e σ M).then σ fun d M1 => .ret d M1
  | .ife c a b, σ, M => (evE O ex c σ M).then σ fun k M1 => onS k (evS O ex a σ M1) (evS O ex b σ M1)
  | .for_ tg it body, σ, M => (evI O ex it σ M).then σ fun p M1 => forL (evS O ex body) tg p.2 p.1 σ M1
  | .whl c body, σ, M => whlL (evE O ex c) (evS O ex body) O.wf σ M
  | .pass, σ, M => .nx σ M
  | .brk, σ, M => .brk σ M
  | .cnt, σ, M => .cnt σ M
  | .raise _ _, _, _ => .stuck
  | .try_ _ _ _, _, _ => .stuck
  | .seq a b, σ, M => (evS O ex a σ M).andThen fun σ' M' => evS O ex b σ' M'
  | .nop, σ, M => .nx σ M

/-- what a body answers -/
def ended : SRes → Res D
  | .nx _ M => .ok .non M
  | .ret d M => .ok d M
  | .exc x _ M => .exc x M
  | _ => .stuck
structure Prg where
  fn : Nat → Option FnI
  glob : Nat → Option D
  mth : Nat → Nat → Option Nat
  ini : Nat → Option Nat
  sub : Nat → Nat → Bool
  wf : Nat
mutual
noncomputable def callN (T : Prg) : Nat → Nat → List D → Sto → Res D
  | 0, _, _, _ => .stuck
  | n + 1, f, ds, M => ofO (T.fn f) fun fi => if ds.length = fi.ps.length then
      ended (evS ⟨callN T n, T.glob, T.mth, T.ini, T.sub, T.wf⟩ none fi.body (ds.map some ++ List.replicate (fi.N.length - ds.length) none) M) else .stuck
end
noncomputable def orc (T : Prg) (n : Nat) : Orc := ⟨callN T n, T.glob, T.mth, T.ini, T.sub, T.wf⟩
end MI

set_option Elab.async false
set_option linter.all false
set_option maxRecDepth 100000
/-! MIb: what the small language's things are in the machine; the readings. -/
namespace MI
open PySem PySem.Spec PyProof.Rows L2

/-- the written part; where the classes stand; the fields' names -/
structure KK where
  K : PySem.W.Frag
  cls : Nat → Addr
  fld : Nat → Str
/-- a list that nobody writes -/
def SqF (K : PySem.W.Frag) (H : Hp) (a : Addr) (xs : List V) : Prop :=
  (∃ o, H a = some (.frz o (.lst xs))) ∨
    ∃ (o : Obj) (its : Array Value) (n : Nat), K.lookup a = some o ∧ o.cls = .type "list" ∧ o.dict = none ∧ o.data = .seq its n ∧ its.size ≤ sizeLine ∧ Vals xs its.toList
/-- a tuple of the module's own -/
def SqK (K : PySem.W.Frag) (a : Addr) (xs : List V) : Prop :=
  ∃ (o : Obj) (its : Array Value) (n : Nat), K.lookup a = some o ∧ o.cls = .type "tuple" ∧ o.data = .seq its n ∧ its.size ≤ sizeLine ∧ Vals xs its.toList
theorem SqK.sqt {K : PySem.W.Frag} {H : Hp} {a : Addr} {xs : List V} (h : SqK K a xs) : SqT K H a xs := .inr h
theorem SqF.sql {K : PySem.W.Frag} {H : Hp} {a : Addr} {xs : List V} (h : SqF K H a xs) : SqL K H a xs := by
  rcases h with h | h
  · exact .inl (.inr h)
  · exact .inr h
def keyD : Key → D
  | .inl i => .int i
  | .inr s => .str s.cps.toList
/-- a dict with the keys ks (numbers and texts, or tuples of them), the values us -/
def DicAt (H : Hp) (a : Addr) (t : Bool) (ks : List D) (us : List V) : Prop := match t with
  | false => ∃ kvs : List (Key × V), H a = some (.dK kvs) ∧ ks = kvs.map (fun p => keyD p.1) ∧ us = kvs.map (·.2)
  | true => ∃ kvs : List (List Key × V), H a = some (.dT kvs) ∧ ks = kvs.map (fun p => .tup (p.1.map keyD)) ∧ us = kvs.map (·.2)
theorem DicAt.isObj {H : Hp} {a : Addr} {t : Bool} {ks : List D} {us : List V} (h : DicAt H a t ks us) : H a ≠ none := by
  cases t <;> obtain ⟨_, h, _⟩ := h <;> rw [h] <;> simp
theorem DicAt.keep {H H' : Hp} {a : Addr} {t : Bool} {ks : List D} {us : List V} (h : DicAt H a t ks us) (k : ∀ o, H a = some o → H' a = some o) : DicAt H' a t ks us := by
  cases t <;> (obtain ⟨kvs, h, e⟩ := h; exact ⟨kvs, k _ h, e⟩)
/-- a tuple; one of pairs is known to the object -/
def TupAt (H : Hp) (a : Addr) (b : Bool) (vs : List V) : Prop := (b = false ∧ H a = some (.tup vs)) ∨ (b = true ∧ ∃ o : Obj, H a = some (.frz o (.tup vs)) ∧ o.dict = none)
theorem TupAt.sqt {K : PySem.W.Frag} {H : Hp} {a : Addr} {b : Bool} {vs : List V} (h : TupAt H a b vs) : SqT K H a vs := by
  rcases h with ⟨_, h⟩ | ⟨_, o, h, _⟩
  · exact .inl (.inl h)
  · exact .inl (.inr ⟨o, h⟩)
theorem TupAt.keep {H H' : Hp} {a : Addr} {b : Bool} {vs : List V} (h : TupAt H a b vs) (t : ∀ a xs, H a = some (.tup xs) → H' a = some (.tup xs)) (f : ∀ a o u, H a = some (.frz o u) → H' a = some (.frz o u)) : TupAt H' a b vs := by
  rcases h with ⟨e, h⟩ | ⟨eb, o, h, e⟩
  · exact .inl ⟨e, t _ _ h⟩
  · exact .inr ⟨eb, o, f _ _ _ h, e⟩
/-- a new tuple's mark -/
def newT (b : Bool) (o : Obj) (vs : List V) : HO := if b = true then .frz o (.tup vs) else .tup vs
section
variable (K : KK) (ι : List Addr) (H : Hp)
mutual
/-- v is d -/
def Rep : D → V → Prop
  | .non, v => v = .non
  | .bl b, v => v = .bl b
  | .int i, v => v = .int i
  | .str s, v => v = .str ⟨s.toArray⟩
  | .tup xs, v => ∃ a vs, v = .ref a ∧ TupAt H a (pairsD xs) vs ∧ Reps xs vs
  | .ref h, v => ∃ a, ι[h]? = some a ∧ v = .ref a
  | .lst xs, v => ∃ a vs, v = .ref a ∧ H a = some (.lst vs) ∧ a ∉ ι ∧ Reps xs vs
  | .dic t ks vs, v => ∃ a us, v = .ref a ∧ DicAt H a t ks us ∧ a ∉ ι ∧ Reps vs us
  | .frl xs, v => ∃ a vs, v = .ref a ∧ SqF K.K H a vs ∧ Reps xs vs
  | .ktp xs, v => ∃ a vs, v = .ref a ∧ SqK K.K a vs ∧ Reps xs vs
def Reps : List D → List V → Prop
  | [], vs => vs = []
  | d :: ds, vs => ∃ v r, vs = v :: r ∧ (Rep d v ∧ homed d = true) ∧ Reps ds r
end
/-- what stands at a is o -/
def RepO (o : MO) (a : Addr) : Prop := match o with
  | .lst xs => ∃ vs, H a = some (.lst vs) ∧ Reps K ι H xs vs
  | .dic t ks vs => ∃ us, DicAt H a t ks us ∧ Reps K ι H vs us
  | .ins _ _ => False
/-- the store is the heap's -/
structure RelM (M : Sto) : Prop where
  len : ι.length = M.length
  nd : ι.Nodup
  obj : ∀ (i : Nat) (o : MO), M[i]? = some o → ∃ a, ι[i]? = some a ∧ RepO K ι H o a
/-- an exception: its class, its own dict -/
def RepX (x : Ex) (cl : Value) (d : Option Addr) : Prop := cl = .ref (K.cls x.cls) ∧ match x.fs with
  | [] => d = none
  | fs => ∃ dd vs, d = some dd ∧ H dd = some (.xd vs) ∧ vs.map (·.1) = fs.map (fun p => K.fld p.1) ∧ Reps K ι H (fs.map (·.2)) (vs.map (·.2))
/-- the slots -/
def RelS (σ : Env) (σV : L2.St) : Prop := σ.length = σV.length ∧ ∀ (i : Nat) (d : D), σ[i]? = some (some d) → homed d = true ∧ ∃ v, σV[i]? = some (some v) ∧ Rep K ι H d v
end
/-- what stays -/
structure Ext (ι : List Addr) (H : Hp) (ι' : List Addr) (H' : Hp) : Prop where
  grow : ∃ n, ι' = ι ++ n ∧ ∀ a ∈ n, H a = none
  keep : ∀ a o, a ∉ ι → H a = some o → H' a = some o
  there : ∀ a, H a ≠ none → H' a ≠ none
  frz : ∀ a o u, H a = some (.frz o u) → H' a = some (.frz o u)
  tup : ∀ a xs, H a = some (.tup xs) → H' a = some (.tup xs)
theorem Ext.refl (ι : List Addr) (H : Hp) : Ext ι H ι H := ⟨⟨[], by simp, by simp⟩, fun _ _ _ h => h, fun _ h => h, fun _ _ _ h => h, fun _ _ h => h⟩
theorem Ext.trans {ι ι1 ι2 : List Addr} {H H1 H2 : Hp} (a : Ext ι H ι1 H1) (b : Ext ι1 H1 ι2 H2) : Ext ι H ι2 H2 := by
  obtain ⟨n, e, hn⟩ := a.grow
  obtain ⟨m, e2, hm⟩ := b.grow
  refine ⟨⟨n ++ m, by rw [e2, e, List.append_assoc], fun x hx => ?_⟩, fun x o h1 h2 => ?_, fun x h => b.there x (a.there x h), fun x o u h => b.frz x o u (a.frz x o u h), fun x xs h => b.tup x xs (a.tup x xs h)⟩
  · rcases List.mem_append.mp hx with h | h
    · exact hn x h
    · cases q : H x with
      | none => rfl
      | some o => exact absurd (hm x h) (a.there x (by rw [q]; simp))
  · refine b.keep x o ?_ (a.keep x o h1 h2)
    rw [e]
    intro h
    rcases List.mem_append.mp h with h | h
    · exact h1 h
    · rw [hn x h] at h2; cases h2
theorem Ext.rdT {K : PySem.W.Frag} {ι ι' : List Addr} {H H' : Hp} (x : Ext ι H ι' H') {a : Addr} {vs : List V} (h : SqT K H a vs) : SqT K H' a vs := by
  rcases h with (h | ⟨o, h⟩) | h
  · exact .inl (.inl (x.tup _ _ h))
  · exact .inl (.inr ⟨o, x.frz _ _ _ h⟩)
  · exact .inr h
theorem Ext.get {ι ι' : List Addr} {H H' : Hp} (x : Ext ι H ι' H') {i : Nat} {a : Addr} (h : ι[i]? = some a) : ι'[i]? = some a := by
  obtain ⟨n, e, _⟩ := x.grow
  rw [e, List.getElem?_append_left (List.getElem?_eq_some_iff.mp h).1]
  exact h
section
variable {K : KK} {ι ι' : List Addr} {H H' : Hp}
mutual
theorem Rep.mono (x : Ext ι H ι' H') : ∀ (d : D) (v : V), Rep K ι H d v → Rep K ι' H' d v
  | .non, _, h => h
  | .bl _, _, h => h
  | .int _, _, h => h
  | .str _, _, h => h
  | .tup xs, v, h => by
    simp only [Rep] at h ⊢
    obtain ⟨a, vs, e, s, r⟩ := h
    exact ⟨a, vs, e, s.keep x.tup x.frz, Reps.mono x xs vs r⟩
  | .ref h, v, q => by
    simp only [Rep] at q ⊢
    obtain ⟨a, e, z⟩ := q
    exact ⟨a, x.get e, z⟩
  | .lst xs, v, h => by
    simp only [Rep] at h ⊢
    obtain ⟨a, vs, e, s, n, r⟩ := h
    refine ⟨a, vs, e, x.keep a _ n s, ?_, Reps.mono x xs vs r⟩
    obtain ⟨m, em, hm⟩ := x.grow
    rw [em]
    intro q
    rcases List.mem_append.mp q with q | q
    · exact n q
    · rw [hm a q] at s; cases s
  | .dic t ks vs, v, h => by
    simp only [Rep] at h ⊢
    obtain ⟨a, us, e, s, n, r⟩ := h
    refine ⟨a, us, e, s.keep fun o q => x.keep a o n q, ?_, Reps.mono x vs us r⟩
    obtain ⟨m, em, hm⟩ := x.grow
    rw [em]
    intro q
    rcases List.mem_append.mp q with q | q
    · exact n q
    · exact s.isObj (hm a q)
  | .frl xs, v, h => by
    simp only [Rep] at h ⊢
    obtain ⟨a, vs, e, s, r⟩ := h
    refine ⟨a, vs, e, ?_, Reps.mono x xs vs r⟩
    rcases s with ⟨o, s⟩ | s
    · exact .inl ⟨o, x.frz _ _ _ s⟩
    · exact .inr s
  | .ktp xs, v, h => by
    simp only [Rep] at h ⊢
    obtain ⟨a, vs, e, s, r⟩ := h
    exact ⟨a, vs, e, s, Reps.mono x xs vs r⟩
theorem Reps.mono (x : Ext ι H ι' H') : ∀ (ds : List D) (vs : List V), Reps K ι H ds vs → Reps K ι' H' ds vs
  | [], _, h => by simpa only [Reps] using h
  | d :: ds, vs, h => by
    simp only [Reps] at h ⊢
    obtain ⟨v, r, e, h1, h2⟩ := h
    exact ⟨v, r, e, ⟨Rep.mono x d v h1.1, h1.2⟩, Reps.mono x ds r h2⟩
end
theorem RelS.mono (x : Ext ι H ι' H') {σ : Env} {σV : L2.St} (h : RelS K ι H σ σV) : RelS K ι' H' σ σV :=
  ⟨h.1, fun i d e => let ⟨z, v, q, r⟩ := h.2 i d e; ⟨z, v, q, Rep.mono x d v r⟩⟩
theorem Reps.length : ∀ {ds : List D} {vs : List V}, Reps K ι H ds vs → ds.length = vs.length
  | [], _, h => by simp only [Reps] at h; simp [h]
  | d :: ds, vs, h => by
    simp only [Reps] at h
    obtain ⟨v, r, e, _, h2⟩ := h
    simp [e, Reps.length h2]
theorem Reps.get : ∀ {ds : List D} {vs : List V} {i : Nat} {d : D}, Reps K ι H ds vs → ds[i]? = some d → ∃ v, vs[i]? = some v ∧ Rep K ι H d v ∧ homed d = true
  | [], _, _, _, _, e => by simp at e
  | d :: ds, vs, 0, x, h, e => by
    simp only [Reps] at h
    obtain ⟨v, r, rfl, h1, _⟩ := h
    simp at e; subst e
    exact ⟨v, rfl, h1⟩
  | d :: ds, vs, i + 1, x, h, e => by
    simp only [Reps] at h
    obtain ⟨v, r, rfl, _, h2⟩ := h
    obtain ⟨v', q, h3⟩ := Reps.get (i := i) (d := x) h2 (by simpa using e)
    exact ⟨v', by simpa using q, h3⟩
theorem Reps.append : ∀ {ds es : List D} {vs us : List V}, Reps K ι H ds vs → Reps K ι H es us → Reps K ι H (ds ++ es) (vs ++ us)
  | [], _, _, _, h, q => by simp only [Reps] at h; subst h; simpa using q
  | d :: ds, es, vs, us, h, q => by
    simp only [Reps] at h
    obtain ⟨v, r, rfl, h1, h2⟩ := h
    simp only [List.cons_append, Reps]
    exact ⟨v, r ++ us, rfl, h1, Reps.append h2 q⟩
theorem Reps.nil : Reps K ι H [] [] := by simp only [Reps]
theorem Reps.cons {d : D} {ds : List D} {v : V} {vs : List V} (h : Rep K ι H d v ∧ homed d = true) (r : Reps K ι H ds vs) : Reps K ι H (d :: ds) (v :: vs) := by
  simp only [Reps]; exact ⟨v, vs, rfl, h, r⟩
theorem Reps.uncons {d : D} {ds : List D} {v : V} {vs : List V} (h : Reps K ι H (d :: ds) (v :: vs)) : (Rep K ι H d v ∧ homed d = true) ∧ Reps K ι H ds vs := by
  simp only [Reps] at h
  obtain ⟨v', r, e, h1, h2⟩ := h
  cases e; exact ⟨h1, h2⟩
theorem Reps.drop : ∀ {ds : List D} {vs : List V} (n : Nat), Reps K ι H ds vs → Reps K ι H (ds.drop n) (vs.drop n)
  | _, _, 0, h => h
  | [], vs, n + 1, h => by simp only [Reps] at h; subst h; simp [Reps]
  | d :: ds, vs, n + 1, h => by
    simp only [Reps] at h
    obtain ⟨v, r, rfl, _, h2⟩ := h
    exact Reps.drop n h2
theorem Reps.take : ∀ {ds : List D} {vs : List V} (n : Nat), Reps K ι H ds vs → Reps K ι H (ds.take n) (vs.take n)
  | _, _, 0, h => by simp [Reps]
  | [], vs, n + 1, h => by simp only [Reps] at h; subst h; simp [Reps]
  | d :: ds, vs, n + 1, h => by
    simp only [Reps] at h
    obtain ⟨v, r, rfl, h1, h2⟩ := h
    simp only [List.take_succ_cons]
    exact Reps.cons h1 (Reps.take n h2)
theorem Reps.reverse : ∀ {ds : List D} {vs : List V}, Reps K ι H ds vs → Reps K ι H ds.reverse vs.reverse
  | [], vs, h => by simp only [Reps] at h; subst h; simp [Reps]
  | d :: ds, vs, h => by
    simp only [Reps] at h
    obtain ⟨v, r, rfl, h1, h2⟩ := h
    simp only [List.reverse_cons]
    exact Reps.append (Reps.reverse h2) (Reps.cons h1 Reps.nil)
theorem Reps.set : ∀ {ds : List D} {vs : List V} (j : Nat) {d : D} {v : V}, Reps K ι H ds vs → Rep K ι H d v ∧ homed d = true → Reps K ι H (ds.set j d) (vs.set j v)
  | [], vs, j, _, _, h, _ => by simp only [Reps] at h; subst h; simp [Reps]
  | d :: ds, vs, 0, e, u, h, q => by
    simp only [Reps] at h
    obtain ⟨v, r, rfl, h1, h2⟩ := h
    exact Reps.cons q h2
  | d :: ds, vs, j + 1, e, u, h, q => by
    simp only [Reps] at h
    obtain ⟨v, r, rfl, h1, h2⟩ := h
    exact Reps.cons h1 (Reps.set j h2 q)
theorem Reps.rep : ∀ (k : Nat) {ds : List D} {vs : List V}, Reps K ι H ds vs → Reps K ι H (List.replicate k ds).flatten (List.replicate k vs).flatten
  | 0, _, _, _ => by simp [Reps]
  | k + 1, ds, vs, h => by
    simp only [List.replicate_succ, List.flatten_cons]
    exact Reps.append h (Reps.rep k h)
end

/-! ### what is wanted of a result -/
/-- how a result's answer is the machine's, told of the heap at the start and behind -/
abbrev RR (α β : Type) := Hp → List Addr → Hp → α → β → Prop
def Mono {α β : Type} (R : RR α β) : Prop := ∀ (ι : List Addr) (H : Hp) (ι1 : List Addr) (H1 : Hp), Ext ι H ι1 H1 → ∀ ι' H' a b, R H1 ι' H' a b → R H ι' H' a b
def post (K : KK) {α β : Type} (R : RR α β) (ι : List Addr) (H : Hp) (r : Res α) (Q : β → Hp → Prop) (E : XK) : Prop := match r with
  | .ok a M' => ∀ ι' H' b, Ext ι H ι' H' → RelM K ι' H' M' → R H ι' H' a b → Q b H'
  | .exc x M' => ∀ ι' H' cl d, Ext ι H ι' H' → RelM K ι' H' M' → RepX K ι' H' x cl d → E cl d H'
  | .stuck => False
/-- a value; what was just made stood not there ahead -/
def fresh (H : Hp) (d : D) (v : V) : Prop := match d with
  | .lst _ => ∀ a, v = .ref a → H a = none
  | .dic _ _ _ => ∀ a, v = .ref a → H a = none
  | _ => True
def RV (K : KK) : RR D V := fun H ι' H' d v => Rep K ι' H' d v ∧ fresh H d v
def RL (K : KK) : RR (List D) (List V) := fun _ ι' H' ds vs => Reps K ι' H' ds vs
def RB : RR Bool Bool := fun _ _ _ d b => d = b
def Res.toB (r : Res D) : Res Bool := match r with
  | .ok (.bl b) M => .ok b M
  | .exc x M => .exc x M
  | _ => .stuck
section
variable {K : KK} {α β γ δ : Type} {ι ι1 : List Addr} {H H1 : Hp} {E : XK}
theorem Ext.gone (x : Ext ι H ι1 H1) {a : Addr} (h : H1 a = none) : H a = none := by
  cases q : H a with
  | none => rfl
  | some o => exact absurd h (x.there a (by rw [q]; simp))
theorem fresh.mono (x : Ext ι H ι1 H1) {d : D} {v : V} (h : fresh H1 d v) : fresh H d v := by
  cases d with
  | lst xs => exact fun a e => x.gone (h a e)
  | dic t ks vs => exact fun a e => x.gone (h a e)
  | _ => trivial
theorem mono_RV : Mono (RV K) := fun _ _ _ _ x _ _ _ _ h => ⟨h.1, h.2.mono x⟩
theorem mono_RL : Mono (RL K) := fun _ _ _ _ _ _ _ _ _ h => h
theorem mono_RB : Mono RB := fun _ _ _ _ _ _ _ _ _ h => h
theorem post_shift {R : RR α β} (hR : Mono R) (x : Ext ι H ι1 H1) {r : Res α} {Q : β → Hp → Prop} (h : post K R ι H r Q E) : post K R ι1 H1 r Q E := by
  cases r with
  | ok a M => exact fun ι' H' b e m q => h ι' H' b (x.trans e) m (hR _ _ _ _ x _ _ _ _ q)
  | exc y M => exact fun ι' H' cl d e m q => h ι' H' cl d (x.trans e) m q
  | stuck => exact h
theorem post_mono {R : RR α β} {r : Res α} {Q Q' : β → Hp → Prop} (h : post K R ι H r Q E) (hQ : ∀ b H', Q b H' → Q' b H') : post K R ι H r Q' E := by
  cases r with
  | ok a M => exact fun ι' H' b e m q => hQ _ _ (h ι' H' b e m q)
  | exc y M => exact h
  | stuck => exact h
theorem post_bind {R1 : RR α β} {R2 : RR γ δ} (hR : Mono R2) {r : Res α} {f : α → Sto → Res γ} {Q : δ → Hp → Prop} (h : post K R2 ι H (r.bind f) Q E) :
    post K R1 ι H r (fun b H1 => ∃ ι1 a M1, Ext ι H ι1 H1 ∧ RelM K ι1 H1 M1 ∧ R1 H ι1 H1 a b ∧ post K R2 ι1 H1 (f a M1) Q E) E := by
  cases r with
  | ok a M => exact fun ι' H' b e m q => ⟨ι', a, M, e, m, q, post_shift hR e h⟩
  | exc y M => exact h
  | stuck => exact h
end
/-! ### readings -/
def tE (K : KK) (W : WX) (ev : Env → Sto → Res D) : TE := fun σV H Q => ∃ ι σ M, RelS K ι H σ σV ∧ RelM K ι H M ∧ post K (RV K) ι H (ev σ M) Q (fun cl d H' => W cl d σV H')
def tT (K : KK) (W : WX) (ev : Env → Sto → Res D) : TT := fun σV H Q => ∃ ι σ M, RelS K ι H σ σV ∧ RelM K ι H M ∧ post K RB ι H (ev σ M).toB Q (fun cl d H' => W cl d σV H')
def tA (K : KK) (W : WX) (ev : Env → Sto → Res (List D)) : TA := fun σV H Q => ∃ ι σ M, RelS K ι H σ σV ∧ RelM K ι H M ∧ post K (RL K) ι H (ev σ M) Q (fun cl d H' => W cl d σV H')
def DE (X : Cx) (K : KK) (e : Expr) (ev : Env → Sto → Res D) : Prop := ∀ W, Takes X W → PE X e (tE K W ev)
def DT (X : Cx) (K : KK) (e : Expr) (ev : Env → Sto → Res D) : Prop := ∀ W, Takes X W → PT X e (tT K W ev)
def DA (X : Cx) (K : KK) (es : List Expr) (ev : Env → Sto → Res (List D)) : Prop := ∀ W, Takes X W → PA X es (tA K W ev)
theorem PE.imp {X : Cx} {e : Expr} {t t' : TE} (h : PE X e t) (w : ∀ σ H Q, t' σ H Q → t σ H Q) : PE X e t' := ⟨fun pins s σ H Q I q => h.run pins s σ H Q I (w σ H Q q)⟩
theorem PT.imp {X : Cx} {e : Expr} {t t' : TT} (h : PT X e t) (w : ∀ σ H Q, t' σ H Q → t σ H Q) : PT X e t' := ⟨fun pins s σ H Q I q => h.run pins s σ H Q I (w σ H Q q)⟩
theorem PA.imp {X : Cx} {e : List Expr} {t t' : TA} (h : PA X e t) (w : ∀ σ H Q, t' σ H Q → t σ H Q) : PA X e t' := ⟨fun pos pins s σ H Q I q => h.run pos pins s σ H Q I (w σ H Q q)⟩
theorem PS.imp {X : Cx} {e : Stmt} {t t' : TS} (h : PS X e t) (w : ∀ D σ H, t' D σ H → t D σ H) : PS X e t' := ⟨fun pins s σ H D I q => h.run pins s σ H D I (w D σ H q)⟩
theorem PSs.imp {X : Cx} {e : List Stmt} {t t' : TS} (h : PSs X e t) (w : ∀ D σ H, t' D σ H → t D σ H) : PSs X e t' := ⟨fun pins s σ H D I q => h.run pins s σ H D I (w D σ H q)⟩
/-- arguments, also such that are just made -/
def RepsA (K : KK) (ι : List Addr) (H : Hp) : List D → List V → Prop
  | [], vs => vs = []
  | d :: ds, vs => ∃ v r, vs = v :: r ∧ Rep K ι H d v ∧ RepsA K ι H ds r
theorem RepsA.mono {K : KK} {ι ι' : List Addr} {H H' : Hp} (x : Ext ι H ι' H') : ∀ {ds : List D} {vs : List V}, RepsA K ι H ds vs → RepsA K ι' H' ds vs
  | [], _, h => h
  | d :: ds, _, h => let ⟨v, r, e, h1, h2⟩ := h; ⟨v, r, e, Rep.mono x d v h1, RepsA.mono x h2⟩
def RLA (K : KK) : RR (List D) (List V) := fun _ ι' H' ds vs => RepsA K ι' H' ds vs
theorem mono_RLA {K : KK} : Mono (RLA K) := fun _ _ _ _ _ _ _ _ _ h => h
theorem fresh_homed {H : Hp} {d : D} {v : V} (h : homed d = true) : fresh H d v := by cases d <;> first | trivial | (simp [homed] at h)
end MI

set_option Elab.async false
set_option linter.all false
set_option maxRecDepth 100000
/-! MIc: the operations by values. -/
namespace MI
open PySem PySem.Spec PyProof.Rows L2
section
variable {K : KK} {ι : List Addr} {H : Hp} {M : Sto}
/-- an operation on two values -/
def OpS (K : KK) (r : R2) (g : D → D → Sto → Res D) : Prop := ∀ ι H M x y vx vy Q E, RelM K ι H M → Rep K ι H x vx → Rep K ι H y vy → post K (RV K) ι H (g x y M) Q E → r vx vy H Q
theorem post_val {d : D} {v : V} {Q : VK} {E : XK} (h : post K (RV K) ι H (.ok d M) Q E) (m : RelM K ι H M) (r : Rep K ι H d v) (f : fresh H d v) : Q v H :=
  h ι H v (Ext.refl _ _) m ⟨r, f⟩
theorem rep_int (i : Int) : Rep K ι H (.int i) (.int i) := by simp [Rep]
theorem rep_bl (i : Bool) : Rep K ι H (.bl i) (.bl i) := by simp [Rep]
theorem rep_non : Rep K ι H .non .non := by simp [Rep]
theorem rep_str (s : List Nat) : Rep K ι H (.str s) (.str ⟨s.toArray⟩) := by simp [Rep]
theorem RelM.isObj (m : RelM K ι H M) {a : Addr} (h : a ∈ ι) : H a ≠ none := by
  obtain ⟨i, hi, e⟩ := List.mem_iff_getElem.mp h
  have hM : i < M.length := by rw [← m.len]; exact hi
  obtain ⟨b, eb, r⟩ := m.obj i M[i] (List.getElem?_eq_getElem hM)
  have : b = a := by
    rw [List.getElem?_eq_getElem hi, e] at eb
    exact (Option.some.inj eb).symm
  subst this
  revert r
  cases M[i] with
  | lst xs => rintro ⟨vs, h1, _⟩; rw [h1]; simp
  | dic t ks vs => rintro ⟨us, h1, _⟩; exact h1.isObj
  | ins c fs => exact fun r => r.elim
/-- a new thing that no name holds -/
theorem ext_new {p : Addr} {o : HO} (h : H p = none) : Ext ι H ι (upd H p o) := by
  refine ⟨⟨[], by simp, by simp⟩, fun a u _ q => ?_, fun a q => ?_, fun a u w q => ?_, fun a xs q => ?_⟩
  · rw [upd_ne (ne_of_none q h)]; exact q
  · by_cases e : a = p
    · subst e; exact absurd h q
    · rw [upd_ne e]; exact q
  · rw [upd_ne (ne_of_none q h)]; exact q
  · rw [upd_ne (ne_of_none q h)]; exact q
theorem RepO.mono {ι' : List Addr} {H' : Hp} (x : Ext ι H ι' H') {o : MO} {a : Addr} (k : ∀ u, H a = some u → H' a = some u) (h : RepO K ι H o a) : RepO K ι' H' o a := by
  cases o with
  | lst xs => obtain ⟨vs, h1, h2⟩ := h; exact ⟨vs, k _ h1, Reps.mono x _ _ h2⟩
  | dic t ks vs => obtain ⟨us, h1, h2⟩ := h; exact ⟨us, h1.keep k, Reps.mono x _ _ h2⟩
  | ins c fs => exact h
theorem RelM.new (m : RelM K ι H M) {p : Addr} {o : HO} (h : H p = none) : RelM K ι (upd H p o) M :=
  ⟨m.len, m.nd, fun i ob e => let ⟨a, ea, r⟩ := m.obj i ob e; ⟨a, ea, RepO.mono (ext_new h) (fun u q => by rw [upd_ne (ne_of_none q h)]; exact q) r⟩⟩
theorem RelM.notin (m : RelM K ι H M) {p : Addr} (h : H p = none) : p ∉ ι := fun q => m.isObj q h
/-- the answer is a new list -/
theorem post_lst {xs : List D} {vs : List V} {Q : VK} {E : XK} (h : post K (RV K) ι H (.ok (.lst xs) M) Q E) (m : RelM K ι H M) (r : Reps K ι H xs vs) : ∀ p, H p = none → Q (.ref p) (upd H p (.lst vs)) := fun p hp =>
  h ι _ _ (ext_new hp) (m.new hp) ⟨by simp only [Rep]; exact ⟨p, vs, rfl, upd_same, m.notin hp, Reps.mono (ext_new hp) _ _ r⟩, fun a e => by cases e; exact hp⟩
theorem post_tup {xs : List D} {vs : List V} {Q : VK} {E : XK} (hp0 : pairsD xs = false) (h : post K (RV K) ι H (.ok (.tup xs) M) Q E) (m : RelM K ι H M) (r : Reps K ι H xs vs) : ∀ p, H p = none → Q (.ref p) (upd H p (.tup vs)) := fun p hp =>
  h ι _ _ (ext_new hp) (m.new hp) ⟨by simp only [Rep]; exact ⟨p, vs, rfl, .inl ⟨hp0, upd_same⟩, Reps.mono (ext_new hp) _ _ r⟩, trivial⟩
theorem post_tupB {xs : List D} {vs : List V} {Q : VK} {E : XK} (h : post K (RV K) ι H (.ok (.tup xs) M) Q E) (m : RelM K ι H M) (r : Reps K ι H xs vs) : ∀ p o, H p = none → o.dict = none → Q (.ref p) (upd H p (newT (pairsD xs) o vs)) := fun p o hp ho =>
  h ι _ _ (ext_new hp) (m.new hp) ⟨by
    simp only [Rep]
    refine ⟨p, vs, rfl, ?_, Reps.mono (ext_new hp) _ _ r⟩
    unfold newT
    cases e : pairsD xs with
    | false => exact .inl ⟨rfl, by rw [if_neg (by simp)]; exact upd_same⟩
    | true => exact .inr ⟨rfl, o, by rw [if_pos rfl]; exact upd_same, ho⟩, trivial⟩
theorem post_nif {α β : Type} {R : RR α β} {c : Prop} [Decidable c] {r : Res α} {Q : β → Hp → Prop} {E : XK} (h : post K R ι H (if c then .stuck else r) Q E) : ¬ c ∧ post K R ι H r Q E := by
  split at h
  · exact h.elim
  · rename_i hc; exact ⟨hc, h⟩
theorem post_lim {α β : Type} {R : RR α β} {n : Nat} {r : Res α} {Q : β → Hp → Prop} {E : XK} (h : post K R ι H (lim n r) Q E) : n ≤ sizeLine ∧ post K R ι H r Q E := by
  unfold lim at h
  split at h
  · rename_i hn; exact ⟨hn, h⟩
  · exact h.elim
theorem post_ofO {α β γ : Type} {R : RR α β} {o : Option γ} {k : γ → Res α} {Q : β → Hp → Prop} {E : XK} (h : post K R ι H (ofO o k) Q E) : ∃ a, o = some a ∧ post K R ι H (k a) Q E := by
  cases o with
  | none => exact h.elim
  | some a => exact ⟨a, rfl, h⟩
theorem post_ite {α β : Type} {R : RR α β} {c : Prop} [Decidable c] {r : Res α} {Q : β → Hp → Prop} {E : XK} (h : post K R ι H (if c then r else .stuck) Q E) : c ∧ post K R ι H r Q E := by
  by_cases hc : c
  · rw [if_pos hc] at h; exact ⟨hc, h⟩
  · rw [if_neg hc] at h; exact h.elim
/-- what stands in the store -/
theorem RelM.atL (m : RelM K ι H M) {h : Nat} {xs : List D} (e : M[h]? = some (.lst xs)) {v : V} (r : Rep K ι H (.ref h) v) : ∃ a vs, v = .ref a ∧ a ∈ ι ∧ ι[h]? = some a ∧ H a = some (.lst vs) ∧ Reps K ι H xs vs := by
  obtain ⟨a, ea, vs, h1, h2⟩ := m.obj h _ e
  simp only [Rep] at r
  obtain ⟨b, eb, rfl⟩ := r
  rw [ea] at eb; cases eb
  exact ⟨a, vs, rfl, List.mem_of_getElem? ea, ea, h1, h2⟩
theorem lstOf_rep (m : RelM K ι H M) {d : D} {xs : List D} {v : V} (e : lstOf M d = some xs) (r : Rep K ι H d v) : ∃ a vs, v = .ref a ∧ H a = some (.lst vs) ∧ Reps K ι H xs vs := by
  cases d with
  | lst ys =>
    cases e
    simp only [Rep] at r
    obtain ⟨a, vs, e1, e2, _, e3⟩ := r
    exact ⟨a, vs, e1, e2, e3⟩
  | ref h =>
    simp only [lstOf] at e
    split at e
    · rename_i ys q; cases e
      obtain ⟨a, vs, e1, _, _, e2, e3⟩ := m.atL q r
      exact ⟨a, vs, e1, e2, e3⟩
    · cases e
  | _ => simp [lstOf] at e
theorem items_rep (m : RelM K ι H M) {d : D} {xs : List D} {v : V} (e : items M d = some xs) (r : Rep K ι H d v) : ∃ a vs, v = .ref a ∧ (SqL K.K H a vs ∨ (isTup d = true ∧ SqT K.K H a vs)) ∧ Reps K ι H xs vs := by
  cases d with
  | lst ys =>
    cases e
    simp only [Rep] at r
    obtain ⟨a, vs, e1, e2, _, e3⟩ := r
    exact ⟨a, vs, e1, .inl (SqL.of e2), e3⟩
  | frl ys =>
    cases e
    simp only [Rep] at r
    obtain ⟨a, vs, e1, e2, e3⟩ := r
    exact ⟨a, vs, e1, .inl e2.sql, e3⟩
  | tup ys =>
    cases e
    simp only [Rep] at r
    obtain ⟨a, vs, e1, e2, e3⟩ := r
    exact ⟨a, vs, e1, .inr ⟨rfl, e2.sqt⟩, e3⟩
  | ktp ys =>
    cases e
    simp only [Rep] at r
    obtain ⟨a, vs, e1, e2, e3⟩ := r
    exact ⟨a, vs, e1, .inr ⟨rfl, e2.sqt⟩, e3⟩
  | ref h =>
    simp only [items] at e
    split at e
    · rename_i ys q; cases e
      obtain ⟨a, vs, e1, _, _, e2, e3⟩ := m.atL q r
      exact ⟨a, vs, e1, .inl (SqL.of e2), e3⟩
    · cases e
  | _ => simp [items] at e
theorem str_len (s : List Nat) : (⟨s.toArray⟩ : Str).length = s.length := by simp [Str.length]
theorem str_app (s t : List Nat) : (⟨s.toArray⟩ : Str) ++ (⟨t.toArray⟩ : Str) = ⟨(s ++ t).toArray⟩ := by
  show Str.append _ _ = _
  simp [Str.append]
end
section
variable {X : Cx} {K : KK}
def rBin (K : PySem.W.Frag) (op : BOp) : R2 := match op with
  | .add => fun x y H Q => rI0 (fun i j => .int (i + j)) x y H Q ∨ (∃ i j, x = .str i ∧ y = .str j ∧ i.length + j.length ≤ sizeLine ∧ Q (.str (i ++ j)) H) ∨ rCatA K x y H Q ∨ rCat x y H Q
  | .sub => rI0 fun i j => .int (i - j)
  | .mul => fun x y H Q => rI CMulW (fun i j => .int (i * j)) x y H Q ∨ rRep x y H Q
  | .fdiv => rI CDivW fun i j => .int (i / j)
  | .mod => rI (fun _ j => 0 < j) fun i j => .int (i % j)
  | .pow => rI CPow fun i j => .int (i ^ j.toNat)
def BOp.op : BOp → Operator
  | .add => .Add
  | .sub => .Sub
  | .mul => .Mult
  | .fdiv => .FloorDiv
  | .mod => .Mod
  | .pow => .Pow
theorem opr_bin (op : BOp) : OpR X (binaryOp op.op) (rBin X.K op) := by
  cases op with
  | add => exact op_add.or (op_add_str.or (op_catA.or op_cat))
  | sub => exact op_sub
  | mul => exact op_mulW.or op_rep
  | fdiv => exact op_fdivW
  | mod => exact op_mod
  | pow => exact op_pow
theorem ops_bin (op : BOp) : OpS K (rBin K.K op) (binop op) := by
  intro ι H M x y vx vy Q E m rx ry h
  unfold binop at h
  split at h
  · simp only [Rep] at rx ry; subst rx ry
    exact .inl ⟨_, _, rfl, rfl, post_val h m (rep_int _) trivial⟩
  · simp only [Rep] at rx ry; subst rx ry
    exact ⟨_, _, rfl, rfl, post_val h m (rep_int _) trivial⟩
  · simp only [Rep] at rx ry; subst rx ry
    obtain ⟨c, h⟩ := post_ite h
    exact .inl ⟨_, _, rfl, rfl, c, post_val h m (rep_int _) trivial⟩
  · simp only [Rep] at rx ry; subst rx ry
    obtain ⟨c, h⟩ := post_ite h
    exact ⟨_, _, rfl, rfl, c, post_val h m (rep_int _) trivial⟩
  · simp only [Rep] at rx ry; subst rx ry
    obtain ⟨c, h⟩ := post_ite h
    exact ⟨_, _, rfl, rfl, c, post_val h m (rep_int _) trivial⟩
  · simp only [Rep] at rx ry; subst rx ry
    obtain ⟨c, h⟩ := post_ite h
    exact ⟨_, _, rfl, rfl, c, post_val h m (rep_int _) trivial⟩
  · simp only [Rep] at rx ry; subst rx ry
    obtain ⟨c, h⟩ := post_lim h
    refine .inr (.inl ⟨_, _, rfl, rfl, by simpa only [str_len] using c, ?_⟩)
    rw [str_app]
    exact post_val h m (rep_str _) trivial
  · simp only [Rep] at rx ry
    obtain ⟨a, us, rfl, sa, ra⟩ := rx
    obtain ⟨b, ws, rfl, sb, rb⟩ := ry
    obtain ⟨c, h⟩ := post_lim h
    obtain ⟨np, h⟩ := post_nif h
    refine .inr (.inr (.inl ⟨a, b, us, ws, rfl, rfl, sa.sqt, sb.sqt, by rw [← ra.length, ← rb.length]; exact c, fun e => ?_, fun _ e => ?_, fun _ _ => ?_⟩))
    · subst e
      have e2 := ra.length
      have e3 := List.eq_nil_of_length_eq_zero (by simpa using e2)
      subst e3
      exact post_val h m (by simp only [Rep, List.nil_append]; exact ⟨b, ws, rfl, sb, rb⟩) trivial
    · subst e
      have e2 := rb.length
      have e3 := List.eq_nil_of_length_eq_zero (by simpa using e2)
      subst e3
      exact post_val h m (by simp only [Rep, List.append_nil]; exact ⟨a, us, rfl, sa, ra⟩) trivial
    · exact post_tup (by simpa using np) h m (ra.append rb)
  · obtain ⟨xs, ex, h⟩ := post_ofO h
    obtain ⟨ys, ey, h⟩ := post_ofO h
    obtain ⟨c, h⟩ := post_lim h
    obtain ⟨a, us, rfl, sa, ra⟩ := lstOf_rep m ex rx
    obtain ⟨b, ws, rfl, sb, rb⟩ := lstOf_rep m ey ry
    exact .inr (.inr (.inr ⟨a, b, us, ws, rfl, rfl, sa, sb, by rw [← ra.length, ← rb.length]; exact c, post_lst h m (ra.append rb)⟩))
  · obtain ⟨xs, ex, h⟩ := post_ofO h
    obtain ⟨⟨c1, c2⟩, h⟩ := post_ite h
    obtain ⟨c, h⟩ := post_lim h
    obtain ⟨a, us, rfl, sa, ra⟩ := lstOf_rep m ex rx
    simp only [Rep] at ry; subst ry
    exact .inr ⟨a, _, us, rfl, rfl, sa, c1, c2, by rw [← ra.length]; exact c, post_lst h m (ra.rep _)⟩
  · exact h.elim
end
end MI

set_option Elab.async false
set_option linter.all false
set_option maxRecDepth 100000
/-! MId: comparisons by values. -/
namespace MI
open PySem PySem.Spec PyProof.Rows L2
/-! ### plain data -/
theorem str_eqb (x y : List Nat) : ((⟨x.toArray⟩ : Str) == ⟨y.toArray⟩) = (x == y) := by
  have h : ((⟨x.toArray⟩ : Str) = ⟨y.toArray⟩) ↔ x = y := by
    constructor
    · intro e; injection e with e; simpa using e
    · rintro rfl; rfl
  by_cases e : x = y
  · rw [beq_iff_eq.mpr (h.mpr e), beq_iff_eq.mpr e]
  · rw [beq_eq_false_iff_ne.mpr e, beq_eq_false_iff_ne.mpr (fun q => e (h.mp q))]
theorem all_dat {n : Nat} {x : D} {xs : List D} (h : (x :: xs).all (dat n) = true) : dat n x = true ∧ xs.all (dat n) = true := by
  rw [List.all_cons, Bool.and_eq_true] at h; exact h
theorem dat_zero_tup {xs : List D} : dat 0 (.tup xs) = false := by simp [dat]
theorem dat_zero_lst {xs : List D} : dat 0 (.lst xs) = false := by simp [dat]
mutual
theorem deq_eqv : ∀ (x y : D) (n m : Nat), dat n x = true → dat m y = true → deq x y = PyData.eqv (pd x) (pd y)
  | .tup xs, y, 0, _, h, _ => by rw [dat_zero_tup] at h; cases h
  | .lst xs, y, 0, _, h, _ => by rw [dat_zero_lst] at h; cases h
  | .tup xs, y, n + 1, m, h, hy => by
    have hx : xs.all (dat n) = true := by simpa [dat] using h
    cases y with
    | tup ys =>
      cases m with
      | zero => rw [dat_zero_tup] at hy; cases hy
      | succ m =>
        have hy' : ys.all (dat m) = true := by simpa [dat] using hy
        simp only [deq, pd, PyData.eqv]
        exact deqs_eqv xs ys n m hx hy'
    | _ => simp [deq, pd, PyData.eqv]
  | .lst xs, y, n + 1, m, h, hy => by
    have hx : xs.all (dat n) = true := by simpa [dat] using h
    cases y with
    | lst ys =>
      cases m with
      | zero => rw [dat_zero_lst] at hy; cases hy
      | succ m =>
        have hy' : ys.all (dat m) = true := by simpa [dat] using hy
        simp only [deq, pd, PyData.eqv]
        exact deqs_eqv xs ys n m hx hy'
    | dic t ks vs => cases m <;> simp [dat] at hy
    | ref k => cases m <;> simp [dat] at hy
    | frl ks => cases m <;> simp [dat] at hy
    | ktp ks => cases m <;> simp [dat] at hy
    | _ => simp [deq, pd, PyData.eqv]
  | .non, y, n, m, h, hy => by cases y <;> first | (simp [deq, pd, PyData.eqv]; done) | (cases m <;> simp [dat] at hy)
  | .bl b, y, n, m, h, hy => by cases y <;> first | (simp [deq, pd, PyData.eqv]; done) | (cases m <;> simp [dat] at hy)
  | .int i, y, n, m, h, hy => by cases y <;> first | (simp [deq, pd, PyData.eqv]; done) | (cases m <;> simp [dat] at hy)
  | .str s, y, n, m, h, hy => by
    cases y with
    | str t => simp only [deq, pd, PyData.eqv]; exact (str_eqb s t).symm
    | dic t ks vs => cases m <;> simp [dat] at hy
    | ref k => cases m <;> simp [dat] at hy
    | frl ks => cases m <;> simp [dat] at hy
    | ktp ks => cases m <;> simp [dat] at hy
    | _ => simp [deq, pd, PyData.eqv]
  | .ref k, y, n, m, h, hy => by cases n <;> simp [dat] at h
  | .dic t ks vs, y, n, m, h, hy => by cases n <;> simp [dat] at h
  | .frl xs, y, n, m, h, hy => by cases n <;> simp [dat] at h
  | .ktp xs, y, n, m, h, hy => by cases n <;> simp [dat] at h
theorem deqs_eqv : ∀ (xs ys : List D) (n m : Nat), xs.all (dat n) = true → ys.all (dat m) = true → deqs xs ys = PyData.eqvAll (xs.map pd) (ys.map pd)
  | [], [], _, _, _, _ => by simp [deqs, PyData.eqvAll]
  | [], y :: ys, _, _, _, _ => by simp [deqs, PyData.eqvAll]
  | x :: xs, [], _, _, _, _ => by simp [deqs, PyData.eqvAll]
  | x :: xs, y :: ys, n, m, h, hy => by
    simp only [deqs, List.map_cons, PyData.eqvAll]
    rw [deq_eqv x y n m (all_dat h).1 (all_dat hy).1, deqs_eqv xs ys n m (all_dat h).2 (all_dat hy).2]
end
theorem lay_all : ∀ (n : Nat) (x : D), dat n x = true → (pd x).canLay0 = true ∧ (pd x).depth ≤ n
  | n, .non, _ => ⟨by simp [pd, PyData.canLay0], by simp [pd, PyData.depth]⟩
  | n, .bl _, _ => ⟨by simp [pd, PyData.canLay0], by simp [pd, PyData.depth]⟩
  | n, .int _, _ => ⟨by simp [pd, PyData.canLay0], by simp [pd, PyData.depth]⟩
  | n, .str s, h => by
    refine ⟨?_, by simp [pd, PyData.depth]⟩
    simp only [pd, PyData.canLay0, PyData.strOk]
    simpa [dat] using h
  | 0, .tup xs, h => by rw [dat_zero_tup] at h; cases h
  | 0, .lst xs, h => by rw [dat_zero_lst] at h; cases h
  | n + 1, .tup xs, h => by
    have hx : xs.all (dat n) = true := by simpa [dat] using h
    have go : ∀ l : List D, l.all (dat n) = true → PyData.canLayAll0 (l.map pd) = true ∧ PyData.depthAll (l.map pd) ≤ n := by
      intro l
      induction l with
      | nil => intro _; simp [PyData.canLayAll0, PyData.depthAll]
      | cons a l ih =>
        intro hl
        have h1 := lay_all n a (all_dat hl).1
        have h2 := ih (all_dat hl).2
        simp only [List.map_cons, PyData.canLayAll0, PyData.depthAll, h1.1, h2.1, Bool.and_self, true_and]
        omega
    simp only [pd, PyData.canLay0, PyData.depth]
    exact ⟨(go xs hx).1, by have := (go xs hx).2; omega⟩
  | n + 1, .lst xs, h => by
    have hx : xs.all (dat n) = true := by simpa [dat] using h
    have go : ∀ l : List D, l.all (dat n) = true → PyData.canLayAll0 (l.map pd) = true ∧ PyData.depthAll (l.map pd) ≤ n := by
      intro l
      induction l with
      | nil => intro _; simp [PyData.canLayAll0, PyData.depthAll]
      | cons a l ih =>
        intro hl
        have h1 := lay_all n a (all_dat hl).1
        have h2 := ih (all_dat hl).2
        simp only [List.map_cons, PyData.canLayAll0, PyData.depthAll, h1.1, h2.1, Bool.and_self, true_and]
        omega
    simp only [pd, PyData.canLay0, PyData.depth]
    exact ⟨(go xs hx).1, by have := (go xs hx).2; omega⟩
  | n, .ref _, h => by cases n <;> simp [dat] at h
  | n, .dic _ _ _, h => by cases n <;> simp [dat] at h
  | n, .frl _, h => by cases n <;> simp [dat] at h
  | n, .ktp _, h => by cases n <;> simp [dat] at h
theorem shaped_of {x : D} (h : dat 60 x = true) : SeqAt.shaped (pd x) = true := by
  have q := lay_all 60 x h
  simp only [SeqAt.shaped, q.1, Bool.true_and, decide_eq_true_eq]
  omega
section
variable {K : KK} {ι : List Addr} {H : Hp} {M : Sto}
theorem dps_of {n k : Nat} (hd : ∀ (d : D) (v : V), Rep K ι H d v → dat k (rs n M d) = true → Dp K.K H v (pd (rs n M d))) :
    ∀ (xs : List D) (vs : List V), Reps K ι H xs vs → (xs.map (rs n M)).all (dat k) = true → DpAll K.K H vs ((xs.map (rs n M)).map pd)
  | [], vs, h, _ => by simp only [Reps] at h; subst h; exact .nil
  | x :: xs, vs, h, q => by
    simp only [Reps] at h
    obtain ⟨v, r, rfl, h1, h2⟩ := h
    rw [List.map_cons] at q
    exact .cons (hd x v h1.1 (all_dat q).1) (dps_of hd xs r h2 (all_dat q).2)
theorem dp0 : ∀ (k : Nat) (d : D) (v : V), Rep K ι H d v → dat k d = true → Dp K.K H v (pd d) := by
  intro k
  induction k with
  | zero =>
    intro d v r h
    cases d with
    | non => simp only [Rep] at r; subst r; simp only [pd]; exact .non
    | bl b => simp only [Rep] at r; subst r; simp only [pd]; exact .bl b
    | int i => simp only [Rep] at r; subst r; simp only [pd]; exact .int i
    | str s => simp only [Rep] at r; subst r; simp only [pd]; exact .str _
    | _ => simp [dat] at h
  | succ k ih =>
    intro d v r h
    have all : ∀ (xs : List D) (vs : List V), Reps K ι H xs vs → xs.all (dat k) = true → DpAll K.K H vs (xs.map pd) := by
      intro xs vs rr hh
      have q := dps_of (M := []) (n := 0) (k := k) (fun d v r h => by simp only [rs] at h ⊢; exact ih d v r h) xs vs rr (by simpa [rs] using hh)
      simpa [rs] using q
    cases d with
    | non => simp only [Rep] at r; subst r; simp only [pd]; exact .non
    | bl b => simp only [Rep] at r; subst r; simp only [pd]; exact .bl b
    | int i => simp only [Rep] at r; subst r; simp only [pd]; exact .int i
    | str s => simp only [Rep] at r; subst r; simp only [pd]; exact .str _
    | tup xs =>
      simp only [Rep] at r
      obtain ⟨a, vs, rfl, s, rr⟩ := r
      simp only [pd]
      exact .tup (s.sqt) (all xs vs rr (by simpa [dat] using h))
    | lst xs =>
      simp only [Rep] at r
      obtain ⟨a, vs, rfl, s, _, rr⟩ := r
      simp only [pd]
      exact .lst (SqL.of s) (all xs vs rr (by simpa [dat] using h))
    | _ => simp [dat] at h
theorem dp_of (m : RelM K ι H M) : ∀ (n k : Nat) (d : D) (v : V), Rep K ι H d v → dat k (rs n M d) = true → Dp K.K H v (pd (rs n M d)) := by
  intro n
  induction n with
  | zero => intro k d v r h; simp only [rs] at h ⊢; exact dp0 k d v r h
  | succ n ih =>
    intro k d v r h
    cases d with
    | ref i =>
      simp only [rs] at h ⊢
      split at h
      · rename_i xs e
        obtain ⟨a, vs, rfl, _, _, s, rr⟩ := m.atL e r
        cases k with
        | zero => rw [dat_zero_lst] at h; cases h
        | succ k =>
          simp only [pd]
          exact .lst (SqL.of s) (dps_of (fun d v r h => ih k d v r h) xs vs rr (by simpa [dat] using h))
      · cases k <;> simp [dat] at h
    | tup xs =>
      simp only [rs] at h ⊢
      simp only [Rep] at r
      obtain ⟨a, vs, rfl, s, rr⟩ := r
      cases k with
      | zero => rw [dat_zero_tup] at h; cases h
      | succ k =>
        simp only [pd]
        exact .tup (s.sqt) (dps_of (fun d v r h => ih k d v r h) xs vs rr (by simpa [dat] using h))
    | lst xs =>
      simp only [rs] at h ⊢
      simp only [Rep] at r
      obtain ⟨a, vs, rfl, s, _, rr⟩ := r
      cases k with
      | zero => rw [dat_zero_lst] at h; cases h
      | succ k =>
        simp only [pd]
        exact .lst (SqL.of s) (dps_of (fun d v r h => ih k d v r h) xs vs rr (by simpa [dat] using h))
    | non => simp only [rs] at h ⊢; exact dp0 k _ v r h
    | bl b => simp only [rs] at h ⊢; exact dp0 k _ v r h
    | int i => simp only [rs] at h ⊢; exact dp0 k _ v r h
    | str s => simp only [rs] at h ⊢; exact dp0 k _ v r h
    | dic t ks vs => simp only [rs] at h; cases k <;> simp [dat] at h
    | frl xs => simp only [rs] at h; cases k <;> simp [dat] at h
    | ktp xs => simp only [rs] at h; cases k <;> simp [dat] at h
end
end MI

set_option Elab.async false
set_option linter.all false
set_option maxRecDepth 100000
/-! MIe: comparisons by values, further. -/
namespace MI
open PySem PySem.Spec PyProof.Rows L2
/-! ### flat things -/
def fv : D → V
  | .bl b => .bl b
  | .int i => .int i
  | .str s => .str ⟨s.toArray⟩
  | _ => .non
section
variable {K : KK} {ι : List Addr} {H : Hp} {M : Sto}
theorem rep_flat {d : D} {v : V} (f : flat d = true) (r : Rep K ι H d v) : v = fv d := by
  cases d <;> first | (simp [flat] at f; done) | (simpa [Rep, fv] using r)
theorem flatV_fv (d : D) : flatV (fv d) = true := by cases d <;> rfl
theorem eqV_fv {x y : D} (hx : flat x = true) (hy : flat y = true) : eqV (fv x) (fv y) = deq x y := by
  cases x <;> first
    | (simp [flat] at hx; done)
    | (cases y <;> first
        | (simp [flat] at hy; done)
        | (simp only [fv, eqV, deq]; done)
        | (simp only [fv, eqV, deq]; exact str_eqb _ _))
theorem reps_flat : ∀ {xs : List D} {vs : List V}, xs.all flat = true → Reps K ι H xs vs → vs = xs.map fv
  | [], vs, _, r => by simpa [Reps] using r
  | x :: xs, vs, f, r => by
    rw [List.all_cons, Bool.and_eq_true] at f
    simp only [Reps] at r
    obtain ⟨v, u, rfl, h1, h2⟩ := r
    rw [List.map_cons, rep_flat f.1 h1.1, reps_flat f.2 h2]
theorem inV_fv {x : D} (hx : flat x = true) : ∀ {xs : List D}, xs.all flat = true → inV (fv x) (xs.map fv) = xs.any fun z => deq z x
  | [], _ => rfl
  | y :: xs, f => by
    rw [List.all_cons, Bool.and_eq_true] at f
    have ih := inV_fv hx f.2
    unfold inV at ih ⊢
    rw [List.map_cons, List.any_cons, List.any_cons, ih, eqV_fv f.1 hx]
theorem allV_fv (xs : List D) : (xs.map fv).all flatV = true := by
  rw [List.all_eq_true]
  intro v h
  obtain ⟨d, _, rfl⟩ := List.mem_map.mp h
  exact flatV_fv d
/-! ### dicts -/
def dKey : D → Option Key
  | .int i => some (.inl i)
  | .str s => some (.inr ⟨s.toArray⟩)
  | _ => none
theorem keyD_of {d : D} {k : Key} (h : dKey d = some k) : keyD k = d := by
  cases d <;> simp [dKey] at h <;> subst h <;> simp [keyD]
theorem kV_rep {d : D} {v : V} {k : Key} (h : dKey d = some k) (r : Rep K ι H d v) : v = kV k := by
  cases d <;> simp [dKey] at h <;> subst h <;> simpa [Rep, kV] using r
theorem dKey_some {d : D} (h : keyOk d = true) : ∃ k, dKey d = some k := by
  cases d <;> simp [keyOk] at h <;> exact ⟨_, rfl⟩
theorem deq_key (a b : Key) : deq (keyD a) (keyD b) = decide (a = b) := by
  cases a with
  | inl i =>
    cases b with
    | inl j => simp only [keyD, deq]; rw [key_ll]
    | inr t => simp only [keyD, deq]; rw [key_lr]
  | inr s =>
    cases b with
    | inl j => simp only [keyD, deq]; rw [key_rl]
    | inr t =>
      simp only [keyD, deq]
      rw [key_rr]
      have := str_eqb s.cps.toList t.cps.toList
      rw [← this]
      show (s == t) = decide (s = t)
      by_cases e : s = t
      · rw [beq_iff_eq.mpr e, decide_eq_true e]
      · rw [beq_eq_false_iff_ne.mpr e, decide_eq_false e]
theorem dget_valK (k : Key) : ∀ (kvs : List (Key × V)) (vs : List D), Reps K ι H vs (kvs.map (·.2)) →
    (dget (keyD k) (kvs.map fun p => keyD p.1) vs = none ∧ valV kvs k = none) ∨ ∃ d v, dget (keyD k) (kvs.map fun p => keyD p.1) vs = some d ∧ valV kvs k = some v ∧ Rep K ι H d v ∧ homed d = true
  | [], vs, _ => .inl ⟨by simp [dget], rfl⟩
  | p :: kvs, vs, r => by
    rw [List.map_cons] at r
    cases vs with
    | nil => simp [Reps] at r
    | cons d vs =>
      obtain ⟨h1, h2⟩ := r.uncons
      simp only [List.map_cons, dget, deq_key]
      by_cases e : p.1 = k
      · rw [if_pos (decide_eq_true e)]
        exact .inr ⟨d, p.2, rfl, valV_pos e, h1⟩
      · rw [if_neg (by simpa using e), valV_neg e]
        exact dget_valK k kvs vs h2
theorem keysD_of : ∀ {ds : List D} {vs : List V}, ds.all keyOk = true → Reps K ι H ds vs → ∃ ks : List Key, ds = ks.map keyD ∧ vs = ks.map kV
  | [], vs, _, r => ⟨[], rfl, by simpa [Reps] using r⟩
  | d :: ds, vs, f, r => by
    rw [List.all_cons, Bool.and_eq_true] at f
    simp only [Reps] at r
    obtain ⟨v, u, rfl, h1, h2⟩ := r
    obtain ⟨k, ek⟩ := dKey_some f.1
    obtain ⟨ks, e1, e2⟩ := keysD_of f.2 h2
    exact ⟨k :: ks, by rw [List.map_cons, keyD_of ek, e1], by rw [List.map_cons, kV_rep ek h1.1, e2]⟩
theorem deqs_key : ∀ (a b : List Key), deqs (a.map keyD) (b.map keyD) = decide (a = b)
  | [], [] => by simp [deqs]
  | [], b :: bs => by simp [deqs]
  | a :: as, [] => by simp [deqs]
  | a :: as, b :: bs => by
    simp only [List.map_cons, deqs, deq_key, deqs_key as bs, List.cons.injEq]
    by_cases e1 : a = b <;> by_cases e2 : as = bs <;> simp [e1, e2]
theorem dget_valT (k : List Key) : ∀ (kvs : List (List Key × V)) (vs : List D), Reps K ι H vs (kvs.map (·.2)) →
    (dget (.tup (k.map keyD)) (kvs.map fun p => .tup (p.1.map keyD)) vs = none ∧ valV kvs k = none) ∨ ∃ d v, dget (.tup (k.map keyD)) (kvs.map fun p => .tup (p.1.map keyD)) vs = some d ∧ valV kvs k = some v ∧ Rep K ι H d v ∧ homed d = true
  | [], vs, _ => .inl ⟨by simp [dget], rfl⟩
  | p :: kvs, vs, r => by
    rw [List.map_cons] at r
    cases vs with
    | nil => simp [Reps] at r
    | cons d vs =>
      obtain ⟨h1, h2⟩ := r.uncons
      simp only [List.map_cons, dget, deq, deqs_key]
      by_cases e : p.1 = k
      · rw [if_pos (decide_eq_true e)]
        exact .inr ⟨d, p.2, rfl, valV_pos e, h1⟩
      · rw [if_neg (by simpa using e), valV_neg e]
        exact dget_valT k kvs vs h2
theorem dicOf_rep (m : RelM K ι H M) {d : D} {t : Bool} {ks vs : List D} {v : V} (e : dicOf M d = some (t, ks, vs)) (r : Rep K ι H d v) : ∃ a us, v = .ref a ∧ DicAt H a t ks us ∧ Reps K ι H vs us := by
  cases d with
  | dic t' ks' vs' =>
    cases e
    simp only [Rep] at r
    obtain ⟨a, us, e1, e2, _, e3⟩ := r
    exact ⟨a, us, e1, e2, e3⟩
  | ref h =>
    simp only [dicOf] at e
    split at e
    · rename_i t' ks' vs' q; cases e
      obtain ⟨a, ea, us, h1, h2⟩ := m.obj h _ q
      simp only [Rep] at r
      obtain ⟨b, eb, rfl⟩ := r
      rw [ea] at eb; cases eb
      exact ⟨a, us, rfl, h1, h2⟩
    · cases e
  | _ => simp [dicOf] at e
/-- a dict asked -/
theorem dget_rep {a : Addr} {t : Bool} {ks vs : List D} {us : List V} {x : D} {vx : V} (h : DicAt H a t ks us) (hr : Reps K ι H vs us) (hk : keyFor t x = true) (rx : Rep K ι H x vx) :
    ∃ o, DGet H a vx o ∧ ((dget x ks vs = none ∧ o = none) ∨ ∃ d v, dget x ks vs = some d ∧ o = some v ∧ Rep K ι H d v ∧ homed d = true) := by
  cases t with
  | false =>
    obtain ⟨kvs, e, rfl, rfl⟩ := h
    obtain ⟨k, ek⟩ := dKey_some (show keyOk x = true from hk)
    refine ⟨valV kvs k, by rw [kV_rep ek rx]; exact .k e, ?_⟩
    rw [← keyD_of ek]
    exact dget_valK k kvs vs hr
  | true =>
    obtain ⟨kvs, e, rfl, rfl⟩ := h
    have hk' : keyT x = true := hk
    cases x with
    | tup xs =>
      simp only [keyT, Bool.and_eq_true] at hk'
      obtain ⟨hx, hne⟩ := hk'
      have np : pairsD xs = false := by
        cases xs with
        | nil => simp at hne
        | cons y ys =>
          rw [List.all_cons, Bool.and_eq_true] at hx
          have h1 := hx.1
          unfold pairsD
          rw [List.all_cons]
          cases y <;> first | rfl | (simp [keyOk] at h1)
      simp only [Rep] at rx
      obtain ⟨b, ws, rfl, sb, rb⟩ := rx
      have sb2 : H b = some (.tup ws) := by
        rcases sb with ⟨_, sb⟩ | ⟨e, _⟩
        · exact sb
        · rw [np] at e; cases e
      obtain ⟨k, e1, e2⟩ := keysD_of hx rb
      subst e1 e2
      exact ⟨valV kvs k, .t e sb2, dget_valT k kvs vs hr⟩
    | _ => simp [keyT] at hk'
end
end MI

set_option Elab.async false
set_option linter.all false
set_option maxRecDepth 100000
/-! MIf: comparisons. -/
namespace MI
open PySem PySem.Spec PyProof.Rows L2
def COp.op : COp → CmpOp
  | .eq => .Eq
  | .ne => .NotEq
  | .lt => .Lt
  | .le => .LtE
  | .gt => .Gt
  | .ge => .GtE
  | .isO => .Is
  | .isnt => .IsNot
  | .inO => .In
  | .notin => .NotIn
def rDin (neg : Bool) : R2 := fun x y H Q => ∃ a o, y = .ref a ∧ DGet H a x o ∧ Q (.bl (if neg then !o.isSome else o.isSome)) H
def rSgn (neg : Bool) : R2 := fun x y H Q => ∃ (c : Nat) (z : Str), x = .str ⟨#[c]⟩ ∧ y = .str z ∧ Q (.bl (if neg then !decide (c ∈ z.cps.toList) else decide (c ∈ z.cps.toList))) H
def rCmp (K : PySem.W.Frag) (op : COp) : R2 := match op with
  | .eq => fun x y H Q => rEq x y H Q ∨ rEqD K x y H Q
  | .ne => fun x y H Q => rNe x y H Q ∨ rNeD K x y H Q
  | .lt => fun x y H Q => rI0 (fun i j => .bl (decide (i < j))) x y H Q ∨ ∃ i j, x = .str i ∧ y = .str j ∧ Q (.bl (decide (i.cps.toList < j.cps.toList))) H
  | .le => rI0 fun i j => .bl (decide (i ≤ j))
  | .gt => rI0 fun i j => .bl (decide (j < i))
  | .ge => rI0 fun i j => .bl (decide (j ≤ i))
  | .isO => fun x y H Q => (y = .non ∧ Q (.bl (decide (x = .non))) H) ∨ rIsB x y H Q
  | .isnt => fun x y H Q => (y = .non ∧ Q (.bl (!decide (x = .non))) H) ∨ rNotB x y H Q
  | .inO => fun x y H Q => rSgn false x y H Q ∨ rDin false x y H Q ∨ rIn K false x y H Q ∨ rInD K x y H Q
  | .notin => fun x y H Q => rSgn true x y H Q ∨ rDin true x y H Q ∨ rIn K true x y H Q ∨ rNotInD K x y H Q
section
variable {X : Cx}
theorem opr_din (hu : X.A.units + 1 < cLine) : OpR X (compareOp .In) (rDin false) := by
  rintro pins s σ H x y v u Q I rx ry ⟨a, o, rfl, g, q⟩
  cases ry
  exact d_in hu I g rx fun s' I' => ⟨.bl _, H, I', rfl, q⟩
theorem opr_dnotin (hu : X.A.units + 1 < cLine) : OpR X (compareOp .NotIn) (rDin true) := by
  rintro pins s σ H x y v u Q I rx ry ⟨a, o, rfl, g, q⟩
  cases ry
  exact d_notIn hu I g rx fun s' I' => ⟨.bl _, H, I', rfl, q⟩
theorem opr_cmp (hu : X.A.units + 65 < cLine) (op : COp) : OpR X (compareOp op.op) (rCmp X.K op) := by
  cases op with
  | eq => exact op_eq.or (op_eqD (Nat.lt_of_succ_lt hu))
  | ne => exact op_ne.or (op_neD (Nat.lt_of_succ_lt hu))
  | lt => exact op_lt.or op_lt_str
  | le => exact op_le
  | gt => exact op_gt
  | ge => exact op_ge
  | isO => exact op_isN.or op_isBl
  | isnt => exact op_notN.or op_notBl
  | inO => exact OpR.or op_in_sign ((opr_din (Nat.lt_of_le_of_lt (by omega) hu)).or (op_in_seq.or (op_inD hu)))
  | notin => exact OpR.or op_notIn_sign ((opr_dnotin (Nat.lt_of_le_of_lt (by omega) hu)).or (op_notIn_seq.or (op_notInD hu)))
end
section
variable {K : KK} {ι : List Addr} {H : Hp} {M : Sto}
theorem str_inj {s t : List Nat} : (⟨s.toArray⟩ : Str) = ⟨t.toArray⟩ ↔ s = t := by
  constructor
  · intro e; injection e with e; simpa using e
  · rintro rfl; rfl
/-- == and !=: what the machine's rules ask -/
theorem eq_rep (m : RelM K ι H M) {x y : D} {vx vy : V} {b : Bool} (e : eqO M x y = some b) (rx : Rep K ι H x vx) (ry : Rep K ι H y vy) :
    (scal vx vy = true ∧ decide (vx = vy) = b) ∨ ∃ d e, Dp K.K H vx d ∧ Dp K.K H vy e ∧ SeqAt.shaped d = true ∧ SeqAt.shaped e = true ∧ PyData.eqv d e = b := by
  unfold eqO at e
  split at e
  all_goals first
    | (cases e; simp only [Rep] at rx ry; subst rx ry; exact .inl ⟨rfl, by simp [str_inj]⟩)
    | skip
  split at e
  · rename_i h
    cases e
    exact .inr ⟨_, _, dp_of m 8 60 x vx rx h.1, dp_of m 8 60 y vy ry h.2, shaped_of h.1, shaped_of h.2, (deq_eqv _ _ 60 60 h.1 h.2).symm⟩
  · cases e
theorem in_rep (m : RelM K ι H M) {x y : D} {vx vy : V} {b : Bool} (e : inO M x y = some b) (rx : Rep K ι H x vx) (ry : Rep K ι H y vy) :
    (∃ (c : Nat) (z : Str), vx = .str ⟨#[c]⟩ ∧ vy = .str z ∧ decide (c ∈ z.cps.toList) = b) ∨ (∃ a o, vy = .ref a ∧ DGet H a vx o ∧ o.isSome = b) ∨
    (∃ p xs, vy = .ref p ∧ (SqL K.K H p xs ∨ SqT K.K H p xs) ∧ flatV vx = true ∧ xs.all flatV = true ∧ inV vx xs = b) ∨
    ∃ d ds, Dp K.K H vx d ∧ Dp K.K H vy (.list ds) ∧ SeqAt.shaped d = true ∧ SeqAt.shaped (.list ds) = true ∧ (ds.any fun z => PyData.eqv z d) = b := by
  unfold inO at e
  split at e
  · cases e
    simp only [Rep] at rx ry; subst rx ry
    exact .inl ⟨_, _, rfl, rfl, rfl⟩
  split at e
  · rename_i t ks vs ed
    split at e
    · rename_i hk
      cases e
      obtain ⟨a, us, rfl, h1, h2⟩ := dicOf_rep m ed ry
      obtain ⟨o, g, h3⟩ := dget_rep h1 h2 hk rx
      refine .inr (.inl ⟨a, o, rfl, g, ?_⟩)
      rcases h3 with ⟨h3, h4⟩ | ⟨d, v, h3, h4, _⟩ <;> rw [h3, h4] <;> rfl
    · cases e
  split at e
  · rename_i xs ei
    split at e
    · rename_i hf
      cases e
      obtain ⟨a, vs, rfl, h1, h2⟩ := items_rep m ei ry
      have ev := reps_flat hf.2 h2
      subst ev
      refine .inr (.inr (.inl ⟨a, _, rfl, ?_, ?_, allV_fv xs, ?_⟩))
      · rcases h1 with h1 | h1
        · exact .inl h1
        · exact .inr h1.2
      · rw [rep_flat hf.1 rx]; exact flatV_fv x
      · rw [rep_flat hf.1 rx]; exact inV_fv hf.1 hf.2
    · split at e
      · rename_i hf
        cases e
        have hy := hf.2.2
        have er : rs 8 M y = .lst (xs.map (rs 7 M)) := by
          cases y with
          | lst ys => cases ei; simp only [rs]
          | ref h =>
            simp only [items] at ei
            split at ei
            · rename_i q; cases ei; simp only [rs, q]
            · cases ei
          | tup ys => simp [isTup] at hf
          | ktp ys => simp [isTup] at hf
          | frl ys => simp only [rs] at hy; simp [dat] at hy
          | _ => simp [items] at ei
        refine .inr (.inr (.inr ⟨pd (rs 8 M x), (xs.map (rs 7 M)).map pd, dp_of m 8 60 x vx rx hf.2.1, ?_, shaped_of hf.2.1, ?_, ?_⟩))
        · have q := dp_of m 8 60 y vy ry hy
          rw [er] at q
          simpa only [pd] using q
        · have q := shaped_of hy
          rw [er] at q
          simpa only [pd] using q
        · rw [er] at hy
          have hall : (xs.map (rs 7 M)).all (dat 59) = true := by simpa only [dat] using hy
          rw [List.any_map]
          have go : ∀ l : List D, l.all (dat 59) = true → (l.any fun z => PyData.eqv (pd z) (pd (rs 8 M x))) = l.any fun z => deq z (rs 8 M x) := by
            intro l
            induction l with
            | nil => intro _; rfl
            | cons a l ih =>
              intro hl
              rw [List.any_cons, List.any_cons, ih (all_dat hl).2, deq_eqv a _ 59 60 (all_dat hl).1 hf.2.1]
          exact go _ hall
      · cases e
  · cases e
theorem ops_cmp (op : COp) : OpS K (rCmp K.K op) (cmpop op) := by
  intro ι H M x y vx vy Q E m rx ry h
  cases op with
  | eq =>
    obtain ⟨b, eb, h⟩ := post_ofO h
    have q := post_val h m (rep_bl b) trivial
    rcases eq_rep m eb rx ry with ⟨h1, h2⟩ | ⟨d, e, h1, h2, h3, h4, h5⟩
    · exact .inl ⟨h1, by rw [h2]; exact q⟩
    · exact .inr ⟨d, e, h1, h2, h3, h4, by rw [h5]; exact q⟩
  | ne =>
    obtain ⟨b, eb, h⟩ := post_ofO h
    have q := post_val h m (rep_bl (!b)) trivial
    rcases eq_rep m eb rx ry with ⟨h1, h2⟩ | ⟨d, e, h1, h2, h3, h4, h5⟩
    · exact .inl ⟨h1, by rw [h2]; exact q⟩
    · exact .inr ⟨d, e, h1, h2, h3, h4, by rw [h5]; exact q⟩
  | inO =>
    obtain ⟨b, eb, h⟩ := post_ofO h
    have q := post_val h m (rep_bl b) trivial
    rcases in_rep m eb rx ry with ⟨c, z, h1, h2, h3⟩ | ⟨a, o, h1, h2, h3⟩ | ⟨p, xs, h1, h2, h3, h4, h5⟩ | ⟨d, ds, h1, h2, h3, h4, h5⟩
    · exact .inl ⟨c, z, h1, h2, by rw [h3]; exact q⟩
    · exact .inr (.inl ⟨a, o, h1, h2, by rw [h3]; exact q⟩)
    · exact .inr (.inr (.inl ⟨p, xs, h1, h2, h3, h4, by rw [h5]; exact q⟩))
    · exact .inr (.inr (.inr ⟨d, ds, h1, h2, h3, h4, by rw [h5]; exact q⟩))
  | notin =>
    obtain ⟨b, eb, h⟩ := post_ofO h
    have q := post_val h m (rep_bl (!b)) trivial
    rcases in_rep m eb rx ry with ⟨c, z, h1, h2, h3⟩ | ⟨a, o, h1, h2, h3⟩ | ⟨p, xs, h1, h2, h3, h4, h5⟩ | ⟨d, ds, h1, h2, h3, h4, h5⟩
    · exact .inl ⟨c, z, h1, h2, by rw [h3]; exact q⟩
    · exact .inr (.inl ⟨a, o, h1, h2, by rw [h3]; exact q⟩)
    · exact .inr (.inr (.inl ⟨p, xs, h1, h2, h3, h4, by rw [h5]; exact q⟩))
    · exact .inr (.inr (.inr ⟨d, ds, h1, h2, h3, h4, by rw [h5]; exact q⟩))
  | isO =>
    simp only [cmpop] at h
    split at h
    · simp only [Rep] at rx ry; subst rx ry
      exact .inl ⟨rfl, post_val h m (rep_bl true) trivial⟩
    · simp only [Rep] at rx ry; subst rx ry
      exact .inr ⟨_, _, rfl, rfl, post_val h m (rep_bl _) trivial⟩
    · rename_i hne
      simp only [Rep] at ry; subst ry
      refine .inl ⟨rfl, ?_⟩
      have : vx ≠ .non := by
        rintro rfl
        cases x <;> simp [Rep] at rx
        exact hne rfl
      rw [decide_eq_false this]
      exact post_val h m (rep_bl false) trivial
    · exact h.elim
  | isnt =>
    simp only [cmpop] at h
    split at h
    · simp only [Rep] at rx ry; subst rx ry
      exact .inl ⟨rfl, post_val h m (rep_bl false) trivial⟩
    · simp only [Rep] at rx ry; subst rx ry
      exact .inr ⟨_, _, rfl, rfl, post_val h m (rep_bl _) trivial⟩
    · rename_i hne
      simp only [Rep] at ry; subst ry
      refine .inl ⟨rfl, ?_⟩
      have : vx ≠ .non := by
        rintro rfl
        cases x <;> simp [Rep] at rx
        exact hne rfl
      rw [decide_eq_false this]
      exact post_val h m (rep_bl true) trivial
    · exact h.elim
  | lt =>
    simp only [cmpop] at h
    split at h
    · simp only [Rep] at rx ry; subst rx ry
      exact .inl ⟨_, _, rfl, rfl, post_val h m (rep_bl _) trivial⟩
    · simp only [Rep] at rx ry; subst rx ry
      exact .inr ⟨_, _, rfl, rfl, post_val h m (rep_bl _) trivial⟩
    · exact h.elim
  | le =>
    simp only [cmpop] at h
    split at h
    · simp only [Rep] at rx ry; subst rx ry
      exact ⟨_, _, rfl, rfl, post_val h m (rep_bl _) trivial⟩
    · exact h.elim
  | gt =>
    simp only [cmpop] at h
    split at h
    · simp only [Rep] at rx ry; subst rx ry
      exact ⟨_, _, rfl, rfl, post_val h m (rep_bl _) trivial⟩
    · exact h.elim
  | ge =>
    simp only [cmpop] at h
    split at h
    · simp only [Rep] at rx ry; subst rx ry
      exact ⟨_, _, rfl, rfl, post_val h m (rep_bl _) trivial⟩
    · exact h.elim
end
end MI

set_option Elab.async false
set_option linter.all false
set_option maxRecDepth 100000
/-! MIfa: sets of numbers and texts: made of a list, counted, sorted. -/
namespace MI
open PySem PySem.Spec PyProof.Rows L2
/-- the key that a value carries -/
def keyU : Value → Key
  | .int k _ => .inl k
  | .str s _ => .inr s
  | _ => .inl 0
def GoodU (w : World) (e : Int × Value) : Prop := ∃ k, RelV (kV k) e.2 ∧ e.1 = keyH w k
theorem keyU_of {k : Key} {v : Value} (r : RelV (kV k) v) : keyU v = k := by
  cases k with
  | inl i => obtain ⟨t, rfl⟩ := r; rfl
  | inr x => obtain ⟨t, rfl⟩ := r; rfl
/-- the set of keys at a: L its members in some order; it can be walked -/
def SetG (w : World) (h : Heap) (a : Addr) (L : List Key) : Prop :=
  ∃ o es ep t, h.get? a = some o ∧ o.ExactSet ∧ o.data = .set es ep t ∧ (∀ e ∈ es.toList, GoodU w e) ∧ (es.toList.map fun e => keyU e.2).Perm L ∧ L.Nodup ∧
    es.size < scanBound ∧ t.fits es.size = true ∧ Ris t.place.toList ∧ (w.params.followText "set-order" = true ∨ t.led = true)
section
variable {P : Program} {w : World} {h h' : Heap} {a : Addr} {L : List Key}
theorem SetG.at (R : SetG w h a L) (k : ∀ o, h.get? a = some o → h'.get? a = some o) : SetG w h' a L := by
  obtain ⟨o, es, ep, t, ho, r⟩ := R
  exact ⟨o, es, ep, t, k o ho, r⟩
theorem goodU_elems {l : List (Int × Value)} (g : ∀ e ∈ l, GoodU w e) : ElemsOf (mixKind P w) l := fun e he => by
  obtain ⟨k, h1, h2⟩ := g e he
  exact ⟨⟨k, kV_is h1, h2⟩, key_scan h1⟩
theorem goodU_is {e : Int × Value} (g : GoodU w e) (k : Key) : (mixKind P w).is k e.2 = true ↔ keyU e.2 = k := by
  obtain ⟨k0, h1, _⟩ := g
  rw [keyU_of h1]
  constructor
  · intro q
    exact (mixKind P w).inj _ _ _ (kV_is h1) q
  · rintro rfl
    exact kV_is h1
theorem goodU_mem {l : List (Int × Value)} (g : ∀ e ∈ l, GoodU w e) (k : Key) : k ∈ l.map (fun e => keyU e.2) ↔ ∃ e ∈ l, (mixKind P w).is k e.2 = true := by
  rw [List.mem_map]
  constructor
  · rintro ⟨e, he, q⟩
    exact ⟨e, he, (goodU_is (g e he) k).2 q⟩
  · rintro ⟨e, he, q⟩
    exact ⟨e, he, (goodU_is (g e he) k).1 q⟩
end
/-- one more member -/
def addU [DecidableEq α] (L : List α) (k : α) : List α := if k ∈ L then L else L ++ [k]
def dedU [DecidableEq α] (xs : List α) : List α := xs.foldl addU []
theorem addU_nodup [DecidableEq α] {L : List α} {k : α} (h : L.Nodup) : (addU L k).Nodup := by
  unfold addU
  split
  · exact h
  · rename_i n
    exact (List.perm_append_singleton k L).nodup_iff.mpr (List.nodup_cons.mpr ⟨n, h⟩)
theorem addU_len [DecidableEq α] (L : List α) (k : α) : (addU L k).length ≤ L.length + 1 := by
  unfold addU
  split <;> simp
theorem dedU_len [DecidableEq α] (xs : List α) : (dedU xs).length ≤ xs.length := by
  have : ∀ (xs L : List α), (xs.foldl addU L).length ≤ L.length + xs.length := by
    intro xs
    induction xs with
    | nil => intro L; simp
    | cons x xs ih =>
      intro L
      have h1 := ih (addU L x)
      have h2 := addU_len L x
      simp only [List.foldl_cons, List.length_cons]
      omega
  simpa [dedU] using this xs []
theorem dedU_nodup [DecidableEq α] (xs : List α) : (dedU xs).Nodup := by
  have : ∀ (xs L : List α), L.Nodup → (xs.foldl addU L).Nodup := by
    intro xs
    induction xs with
    | nil => intro L h; exact h
    | cons x xs ih => intro L h; exact ih _ (addU_nodup h)
  exact this xs [] List.nodup_nil
theorem dedU_take_succ [DecidableEq α] {xs : List α} {i : Nat} {x : α} (h : xs[i]? = some x) : dedU (xs.take (i + 1)) = addU (dedU (xs.take i)) x := by
  unfold dedU
  rw [List.take_add_one, h]
  simp
section
variable {P : Program} {w : World} {A : Around} {E : Value → Shared → Prop} {s : Shared} {a : Addr} {L : List Key}
theorem setG_add_tail {g : Bool → Sem Unit} (hg : ∀ (b : Bool) (s₁ : Shared) (Q' : Unit → Shared → Prop), Q' () s₁ → wpAny (model P w) A (g b) Q' E s₁)
    {o : Obj} {es : Array (Int × Value)} {ep : Nat} {t : SetTable} (ho : s.heap.get? a = some o) (hex : o.ExactSet) (hd : o.data = .set es ep t)
    {es1 : Array (Int × Value)} {t2 : SetTable} (g1 : ∀ e ∈ es1.toList, GoodU w e) (p1 : (es1.toList.map fun e => keyU e.2).Perm L) (nd1 : L.Nodup)
    (hb1 : es1.size < scanBound) (hf2 : t2.fits es1.size = true) (hr : Ris t2.place.toList) (hl : w.params.followText "set-order" = true ∨ t2.led = true) {wasDummy : Bool} {R : Option Bool → Shared → Prop}
    (hR : ∀ h', Heap.SameBut a s.heap h' → SetG w h' a L → R (some true) { s with heap := h' }) :
    wpAny (model P w) A (do
        storeSet a es1 t2
        if (!wasDummy && t2.tooFull) = true then do
            g (relayAll t2 es1 (SetTable.grown es1.size)).2.2
            storeSet a (relayAll t2 es1 (SetTable.grown es1.size)).1 (relayAll t2 es1 (SetTable.grown es1.size)).2.1
            pure (some true)
          else pure (some true)) R E s := by
  refine wpAny_bind (wpAny_storeSet_of ho hd ?_ (fits_of_scanBound hb1))
  have ho1 := store_at (es' := es1) (t' := t2) ho hd
  have sb1 := Heap.SameBut.update s.heap a (Obj.putSet es1 t2)
  split
  · have pm := relayAll_perm t2 es1 (SetTable.grown es1.size)
    have hf3 := relayAll_fits t2 es1 (SetTable.grown es1.size)
    have hr3 := relayAll_ris t2 es1 (SetTable.grown es1.size)
    have hl3 := relayAll_led t2 es1 (SetTable.grown es1.size)
    generalize relayAll t2 es1 (SetTable.grown es1.size) = Z at pm hf3 hr3 hl3 ⊢
    obtain ⟨es2, t3, gave⟩ := Z
    dsimp only at pm hf3 hr3 hl3 ⊢
    have hsz : es2.size = es1.size := by rw [← Array.length_toList, pm.length_eq, Array.length_toList]
    have hb2 : es2.size < scanBound := by rw [hsz]; exact hb1
    refine wpAny_bind (hg _ _ _ ?_)
    refine wpAny_bind (wpAny_storeSet_of ho1 rfl ?_ (fits_of_scanBound hb2))
    have ho2 := store_at (es' := es2) (t' := t3) ho1 rfl
    refine wpAny_pure (hR _ (sb1.trans (Heap.SameBut.update _ a _)) ?_)
    exact ⟨_, es2, _, t3, ho2, hex, rfl, fun e he => g1 e (pm.mem_iff.mp he), (pm.map _).trans p1, nd1, hb2, hf3, hr3, hl.imp id fun z => by rw [hl3]; exact z⟩
  · exact wpAny_pure (hR _ sb1 ⟨_, es1, _, t2, ho1, hex, rfl, g1, p1, nd1, hb1, hf2, hr, hl⟩)
theorem setG_add_hashed {k : Key} {u : Value} {Q : Bool → Shared → Prop} (R : SetG w s.heap a L) (ru : RelV (kV k) u) (room : L.length + 1 < scanBound)
    (hQ : ∀ h', Heap.SameBut a s.heap h' → SetG w h' a (addU L k) → ∀ b, Q b { s with heap := h' }) :
    wpAny (model P w) A (setAddHashed a u ((mixKind P w).hash k)) Q E s := by
  obtain ⟨o, es, ep, t, ho, hex, hd, g, pL, nd, hb, hf, hr, hl⟩ := R
  have hn : es.size = L.length := by rw [← pL.length_eq, List.length_map, Array.length_toList]
  have hkey : (mixKind P w).is k u = true := kV_is ru
  have hsc : u.scannable = true := key_scan ru
  have hel : ElemsOf (mixKind P w) es.toList := goodU_elems g
  unfold setAddHashed setAddHashedIn
  refine wpAny_holding (wpAny_bind (wpAny_setState_of ho hd hf ?_))
  dsimp only
  rw [byScan_of hsc hb hel]
  simp only [↓reduceIte]
  unfold setAddByScan
  refine wpAny_bind ?_
  refine wpAny_bind (wpAny_rule ?_)
  refine wpAny_bind (wpAny_setScan_of hkey ho hd hf hel ?_)
  cases hfi : List.findIdx? (fun e => (mixKind P w).is k e.2) es.toList with
  | some j =>
    dsimp only
    obtain ⟨hj, pj, _⟩ := List.findIdx?_eq_some_iff_getElem.mp hfi
    have hSk : k ∈ L := pL.mem_iff.mp ((goodU_mem (P := P) (w := w) g k).2 ⟨es.toList[j], List.getElem_mem hj, pj⟩)
    refine wpAny_pure (wpAny_pure ?_)
    have q := hQ s.heap (Heap.SameBut.refl a s.heap) (by unfold addU; rw [if_pos hSk]; exact ⟨o, es, ep, t, ho, hex, hd, g, pL, nd, hb, hf, hr, hl⟩)
    exact q _
  | none =>
    dsimp only
    have hnk : k ∉ es.toList.map (fun e => keyU e.2) := fun z => by
      obtain ⟨e, he, q⟩ := (goodU_mem (P := P) (w := w) g k).1 z
      have c := List.findIdx?_eq_none_iff.mp hfi e he
      rw [q] at c
      cases c
    have hSk : k ∉ L := fun z => hnk (pL.mem_iff.mpr z)
    have hgw : ∀ (b : Bool) {s₁ : Shared} {Q' : Unit → Shared → Prop}, Q' () s₁ → wpAny (model P w) A (match b with | true => rule "set.scan.the-table-gave-way" | false => pure ()) Q' E s₁ :=
      fun b s₁ Q' q => by cases b <;> first | exact wpAny_pure q | exact wpAny_rule q
    have pm := layNew_perm t es ((mixKind P w).hash k) u
    have hf1 := layNew_fits t es ((mixKind P w).hash k) u
    have hr1 := layNew_ris t es ((mixKind P w).hash k) u hr
    have hl1 := layNew_led t es ((mixKind P w).hash k) u
    generalize layNew t es ((mixKind P w).hash k) u = Z at pm hf1 hr1 hl1 ⊢
    obtain ⟨es1, t1, wasDummy, gave⟩ := Z
    dsimp only at pm hf1 hr1 hl1 ⊢
    rw [Array.toList_push] at pm
    have g1 : ∀ e ∈ es1.toList, GoodU w e := fun e he => by
      rcases List.mem_append.mp (pm.mem_iff.mp he) with z | z
      · exact g e z
      · rw [List.mem_singleton.mp z]; exact ⟨k, ru, rfl⟩
    have p1 : (es1.toList.map fun e => keyU e.2).Perm (L ++ [k]) := by
      refine (pm.map _).trans ?_
      rw [List.map_append]
      refine pL.append ?_
      simp only [List.map_cons, List.map_nil, keyU_of ru]
      exact List.Perm.refl _
    have eL : addU L k = L ++ [k] := by unfold addU; rw [if_neg hSk]
    have nd1 : (L ++ [k]).Nodup := by rw [← eL]; exact addU_nodup nd
    have hsz : es1.size = L.length + 1 := by rw [← Array.length_toList, pm.length_eq, List.length_append, Array.length_toList, hn] <;> rfl
    have hb1 : es1.size < scanBound := by rw [hsz]; exact room
    have hled : w.params.followText "set-order" = true ∨ t1.led = true := hl.imp id fun z => by rw [hl1]; exact z
    have fin : ∀ h', Heap.SameBut a s.heap h' → SetG w h' a (L ++ [k]) → Q true { s with heap := h' } := fun h' sb r => by
      exact hQ h' sb (by rw [eL]; exact r) _
    refine wpAny_bind (hgw _ ?_)
    split
    · refine wpAny_bind ?_
      rw [hashByValue_scannable 8 hsc]
      refine wpAny_pure ?_
      refine setG_add_tail ?_ ho hex hd g1 p1 nd1 hb1 ?_ ?_ ?_ ?_
      · intro b s₁ Q' q; cases b <;> first | exact wpAny_pure q | exact wpAny_rule q
      · first | (split <;> first | exact hf1 | exact SetTable.fits_plain_off hf1) | exact hf1
      · first | (split <;> exact hr1) | exact hr1
      · first | (split <;> exact hled) | exact hled
      · intro h' sb r; dsimp only; exact wpAny_pure (fin h' sb r)
    · refine wpAny_bind (wpAny_pure ?_)
      simp only [↓reduceIte]
      refine setG_add_tail ?_ ho hex hd g1 p1 nd1 hb1 hf1 hr1 hled ?_
      · intro b s₁ Q' q; cases b <;> first | exact wpAny_pure q | exact wpAny_rule q
      · intro h' sb r; dsimp only; exact wpAny_pure (fin h' sb r)
end
section
variable {prog : Program} {w : World} {A : Around} {R : Result → Shared → Prop} {I : Addr} {fp wr : List Addr} {G : Array GenState → Array GenState → Prop} {n : Nat} {P : Nat → Value → Prop} {St : Nat → Shared → Prop}
theorem loopG (W : WalksS prog w A.in1 I fp wr G n P St) (S : Addr) (hSf : S ∉ fp) (xs : List Key) (hsz : xs.length = n) (hn1 : n + 1 < scanBound)
    (hval : ∀ i v, P i v → ∃ k, xs[i]? = some k ∧ RelV (kV k) v) :
    ∀ (k i : Nat) (s : Shared), n - i = k → i ≤ n → St i s → SetG w s.heap S (dedU (xs.take i)) →
      (∀ s', Moved (S :: wr) G s s' → SetG w s'.heap S (dedU (xs.take n)) → R (.ok (.ret .none)) s') →
      codeAny (model prog w) A (.builtin "set.update.loop" ⟨[.ref S, .ref I], []⟩) R s := by
  have hSw : S ∉ wr := fun h => hSf (W.sub _ h)
  have hsub : ∀ b ∈ wr, b ∈ S :: wr := fun b hb => List.mem_cons_of_mem _ hb
  intro k
  induction k with
  | zero =>
    intro i s hk hi hst hS hR
    have hin : i = n := by omega
    subst hin
    refine codeAny_builtin PyProof.Rows.F.entry_set_update_loop ?_
    rw [Around.under_plainId PyProof.Rows.F.plain_set_update_loop _]
    show wpAny _ A.in1 (pyNext (.ref I) >>= _) _ _ s
    refine wpAny_bind (W.done s _ _ hst fun s' hm => ?_)
    show wpAny _ A.in1 (ret Value.none) _ _ s'
    exact wpAny_pure (hR s' (hm.mono hsub) (hS.at fun o e => hm.heap S _ hSw e))
  | succ k ih =>
    intro i s hk hi hst hS hR
    have hlt : i < n := by omega
    refine codeAny_builtin PyProof.Rows.F.entry_set_update_loop ?_
    rw [Around.under_plainId PyProof.Rows.F.plain_set_update_loop _]
    show wpAny _ A.in1 (pyNext (.ref I) >>= _) _ _ s
    refine wpAny_bind (W.item i s _ _ hlt hst fun v s' hP hst' hm => ?_)
    obtain ⟨key, hx, rk⟩ := hval i v hP
    have hS' : SetG w s'.heap S (dedU (xs.take i)) := hS.at fun o e => hm.heap S _ hSw e
    show wpAny _ A.in1 (holding [v] (setAdd S v) >>= _) _ _ s'
    refine wpAny_bind (wpAny_holding ?_)
    unfold setAdd
    refine wpAny_holding ?_
    refine wpAny_bind ((mixKind prog w).pyHash (k := key) (kV_is rk) ?_)
    have hroom : (dedU (xs.take i)).length + 1 < scanBound := by have := dedU_len (xs.take i); rw [List.length_take] at this; omega
    refine setG_add_hashed (s := { s' with toks := s'.toks + 1 }) hS' rk hroom fun h' hsb hS2 _ => ?_
    have hSi : SetG w h' S (dedU (xs.take (i + 1))) := by rw [dedU_take_succ hx]; exact hS2
    refine wpAny_pure ⟨plainId_quiet PyProof.Rows.F.plain_set_update_loop _, ih (i + 1) _ (by omega) hlt (W.frame _ s' _ _ hst' (Nat.le_succ _) fun b hb o e => ?_) hSi fun s'' hm'' hS'' => ?_⟩
    · rw [hsb.2 b (fun h : b = S => hSf (by rw [← h]; exact hb))]; exact e
    · refine hR s'' (Moved.trans W.gtrans ((hm.mono hsub).then_heap (Nat.le_succ _) fun b o hb e => ?_) hm'') hS''
      rw [hsb.2 b (fun h : b = S => hb (by rw [h]; exact List.mem_cons_self))]; exact e
end
end MI

set_option Elab.async false
set_option linter.all false
set_option maxRecDepth 100000
/-! MIfb: set(xs), sorted(set(xs)), len(set(xs)). -/
namespace MI
open PySem PySem.Spec PyProof.Rows L2
theorem setG_fresh {h : Heap} {w : World} {a : Addr} (ho : h.get? a = some { cls := .type "set", dict := none, data := .set #[] 0 (.fresh 0 0 (!w.params.followText "set-order")) }) : SetG w h a [] :=
  ⟨_, #[], 0, _, ho, ⟨rfl, rfl, rfl⟩, rfl, (fun e he => by simp at he), List.Perm.refl _, List.nodup_nil, (by decide), (by rfl), List.Pairwise.nil, by
    show _ ∨ (!w.params.followText "set-order") = true
    cases w.params.followText "set-order"
    · exact .inr rfl
    · exact .inl rfl⟩
theorem keys_at : ∀ {us : List Value} {xs : List Key}, Vals (xs.map kV) us → ∀ (i : Nat) (v : Value), us[i]? = some v → ∃ k, xs[i]? = some k ∧ RelV (kV k) v
  | us, [], r, i, v, h => by cases r; simp at h
  | us, x :: xs, r, i, v, h => by
    rw [List.map_cons] at r
    cases r with
    | cons h1 t =>
      cases i with
      | zero => simp at h; subst h; exact ⟨x, rfl, h1⟩
      | succ i => simpa using keys_at t i v (by simpa using h)
section
variable {P : Program} {w : World} {A : Around} {E : Value → Shared → Prop} {s : Shared}
set_option maxHeartbeats 3200000 in
theorem call_setG {l : Addr} {items : Array Value} (xs : List Key) {Q : Value → Shared → Prop} (hh : A.handled = none) (hl : s.heap.IsList l items) (hit : Vals (xs.map kV) items.toList) (hfew : xs.length + 1 < scanBound)
    (h : ∀ (h' : Heap) (tk : Nat), SetG w h' s.heap.objs.size (dedU xs) → (∀ b o, b < s.heap.objs.size → s.heap.get? b = some o → h'.get? b = some o) → Q (.ref s.heap.objs.size) { s with heap := h', toks := tk }) :
    wpAny (model P w) A (call (.type "set") [.ref l]) Q E s := by
  have hisz : items.size = xs.length := by
    have q := hit.length
    rw [List.length_map, Array.length_toList] at q
    exact q.symm
  obtain ⟨c, tl, hmro⟩ := PySem.F.called_set.mro
  have hmade := PySem.F.called_set.made
  have hsub := PySem.F.called_set.sub
  refine wpAny_call (codeAny_of_tree ?_)
  show wpAny _ _ (callAny (.type "set") _) _ _ _
  refine wpAny_pure ⟨Code.quiet_builtin _ (by decide +kernel), codeAny_builtin PySem.F.entry_type_call ?_⟩
  rw [Around.under_plain (weight_type_call_type "set" [.ref l] []) rfl]
  have h1 := PySem.F.called_set.notType
  have h2 := PySem.F.called_set.canCreate
  have hct := PySem.F.typeCall_set_1 (.ref l)
  repeat (any_goals (first | assumption | wp_step))
  refine codeAny_mono (code_set_led1 (.ref l) (E := E) (Q₁ := fun obj s₁ => obj = .ref s.heap.objs.size ∧ s₁ = { s with heap := s.heap.push { cls := .type "set", dict := none, data := .set #[] 0 (.fresh 0 0 (!w.params.followText "set-order")) } }) ⟨rfl, rfl⟩) fun r s₁ hr => ?_
  cases r with
  | error e => exact hr
  | ok fl =>
    cases fl with
    | ret obj =>
      obtain ⟨rfl, rfl⟩ := hr
      have hS : (s.heap.push { cls := .type "set", dict := none, data := .set #[] 0 (.fresh 0 0 (!w.params.followText "set-order")) }).get? s.heap.objs.size = some { cls := .type "set", dict := none, data := .set #[] 0 (.fresh 0 0 (!w.params.followText "set-order")) } := Heap.get?_push_size _ rfl
      have hT : Shared.TypeIs { s with heap := s.heap.push { cls := .type "set", dict := none, data := .set #[] 0 (.fresh 0 0 (!w.params.followText "set-order")) } } (.ref s.heap.objs.size) "set" := ⟨_, hS, rfl⟩
      have hli := PySem.F.called_set.init.lookup
      have hbi := PySem.F.called_set.init.bind (.ref s.heap.objs.size)
      repeat (any_goals (first | assumption | wp_step))
      refine codeAny_mono (codeAny_call_builtin (R := wants (fun r s₂ => r = .none ∧ ∃ h' tk, s₂ = { s with heap := h', toks := tk } ∧ SetG w h' s.heap.objs.size (dedU xs) ∧
          (∀ b o, b < s.heap.objs.size → s.heap.get? b = some o → h'.get? b = some o)) E) PySem.F.called_set.init.plain PySem.F.entry_set_init (check_set_init_1 hT ?_)) fun r₂ s₂ hr₂ => ?_
      · obtain ⟨ol, hol, hcl, nl, hdl⟩ := hl
        obtain ⟨ocls, odict, odata, oslots⟩ := ol
        simp only at hcl hdl
        subst hcl; subst hdl
        have hol' : (s.heap.push { cls := .type "set", dict := none, data := .set #[] 0 (.fresh 0 0 (!w.params.followText "set-order")) }).get? l = some { cls := .type "list", dict := odict, data := .seq items nl, slots := oslots } := Heap.get?_push_of_some _ hol
        have hsls := PySem.F.sub_list_set
        have hslf := PySem.F.sub_list_frozenset
        have hne : (Value.type "list" == Value.type "dict") = false := by decide
        have hl1 : (s.heap.push { cls := .type "set", dict := none, data := .set #[] 0 (.fresh 0 0 (!w.params.followText "set-order")) }).IsList l items := ⟨_, hol', rfl, nl, rfl⟩
        unfold Builtin.«set.__init__» noKeywords Builtin.Frozenset.updateFrom
        generalize hPI : pyIter = PI
        wp_walk
        subst hPI
        refine wpAny_pyIter_list hl1 ?_
        refine wpAny_bind (wpAny_runValue ?_)
        have hlS : l < s.heap.objs.size := Heap.lt_size hol
        have hh3 : A.in1.in1.in1.handled = none := by simp [hh]
        have hneI : l ≠ (s.heap.push { cls := .type "set", dict := none, data := .set #[] 0 (.fresh 0 0 (!w.params.followText "set-order")) }).objs.size := by
          rw [Heap.size_push]; exact Nat.ne_of_lt (Nat.lt_succ_of_lt hlS)
        have hSf : s.heap.objs.size ∉ [(s.heap.push { cls := .type "set", dict := none, data := .set #[] 0 (.fresh 0 0 (!w.params.followText "set-order")) }).objs.size, l] := by
          rw [Heap.size_push]; simp only [List.mem_cons, List.mem_singleton, List.not_mem_nil, or_false, not_or]
          exact ⟨Nat.ne_of_lt (Nat.lt_succ_self _), Nat.ne_of_gt hlS⟩
        have hval : ∀ (i : Nat) (v : Value), items[i]? = some v → ∃ k, xs[i]? = some k ∧ RelV (kV k) v := fun i v hv => keys_at hit i v (by rw [Array.getElem?_toList]; exact hv)
        refine loopG ((Walks.list hh3 _ l hneI items).toS) s.heap.objs.size
          hSf xs hisz.symm (by rw [hisz]; exact hfew) hval (items.size - 0) 0 _ (by omega) (Nat.zero_le _)
          ⟨⟨_, Heap.get?_push_size _ rfl, rfl, rfl⟩, (hl1.push _)⟩ ?hS0 ?hR
        case hS0 =>
          exact setG_fresh (Heap.get?_push_of_some _ hS)
        case hR =>
          intro s' hm hS'
          obtain ⟨h', g', d', tk', os'⟩ := s'
          have eg : g' = s.gens := hm.gens
          have ed : d' = s.drawn := hm.drawn
          have eo : os' = s.os := hm.os
          subst eg; subst ed; subst eo
          show wpAny _ _ _ _ _ _
          refine wpAny_pure ?_
          show wpAny _ _ (ret Value.none) _ _ _
          rw [hisz, List.take_length] at hS'
          refine wpAny_pure ⟨rfl, h', tk', rfl, hS', fun b o hb e => ?_⟩
          have hb1 : b ≠ s.heap.objs.size := Nat.ne_of_lt hb
          have hb2 : b ≠ (s.heap.push { cls := .type "set", dict := none, data := .set #[] 0 (.fresh 0 0 (!w.params.followText "set-order")) }).objs.size := by
            rw [Heap.size_push]; exact Nat.ne_of_lt (Nat.lt_succ_of_lt hb)
          exact hm.heap b o (by simp only [List.mem_cons, List.mem_singleton, List.not_mem_nil, or_false, not_or]; exact ⟨hb1, hb2⟩) (Heap.get?_push_of_some _ (Heap.get?_push_of_some _ e))
      · cases r₂ with
        | error e => exact hr₂
        | ok fl₂ =>
          cases fl₂ with
          | ret r =>
            obtain ⟨rfl, h', tk, rfl, hS', hk'⟩ := hr₂
            repeat (any_goals (first | assumption | wp_step))
            exact h _ _ hS' hk'
          | _ => exact hr₂.elim
    | _ => exact hr.elim
def kD : Key → PyData
  | .inl i => .int i
  | .inr x => .str x
theorem reads_key {h : Heap} {k : Key} {v : Value} (r : RelV (kV k) v) : Reads h v (kD k) [] := by
  cases k with
  | inl i => obtain ⟨t, rfl⟩ := r; exact .int _ _
  | inr x => obtain ⟨t, rfl⟩ := r; exact .str _ _
/-- all numbers or all texts -/
def KLike (xs : List Key) : Prop := (∀ k ∈ xs, ∃ i, k = .inl i) ∨ ∀ k ∈ xs, ∃ x, k = .inr x
theorem KLike.alike {xs : List Key} (h : KLike xs) : PySem.W.AllAlike (xs.map kD) := by
  intro d hd d' hd'
  obtain ⟨k, hk, rfl⟩ := List.mem_map.mp hd
  obtain ⟨k', hk', rfl⟩ := List.mem_map.mp hd'
  rcases h with h | h
  · obtain ⟨i, rfl⟩ := h k hk; obtain ⟨j, rfl⟩ := h k' hk'; rfl
  · obtain ⟨i, rfl⟩ := h k hk; obtain ⟨j, rfl⟩ := h k' hk'; rfl
theorem KLike.sortable (xs : List Key) : PySem.W.Sortable (xs.map kD) := by
  refine .inr fun d hd => ?_
  obtain ⟨k, hk, rfl⟩ := List.mem_map.mp hd
  cases k <;> exact ⟨by simp [kD], by simp [kD]⟩
end
end MI

set_option Elab.async false
set_option linter.all false
set_option maxRecDepth 100000
/-! MIfc: sorted(set(xs)), len(set(xs)). -/
namespace MI
open PySem PySem.Spec PyProof.Rows L2
/-- sorted keys -/
noncomputable def sortK (L : List Key) : List Key := L.mergeSort (PySem.W.dataLe false kD)
theorem leK_total : PySem.W.TotalLe (PySem.W.dataLe false kD) := PySem.W.sortLe_total _ _ _
theorem leK_anti {a b : Key} (h1 : PySem.W.dataLe false kD a b = true) (h2 : PySem.W.dataLe false kD b a = true) : a = b := by
  have e : PySem.W.keyToks (kD a) = PySem.W.keyToks (kD b) := by
    refine (PyProof.Rows.listOrd PyProof.Rows.itemOrd).total _ _ ?_ ?_
    · have h2' : (!(PyProof.Rows.listOrd PyProof.Rows.itemOrd).blt (PySem.W.keyToks (kD a)) (PySem.W.keyToks (kD b))) = true := h2
      simpa using h2'
    · have h1' : (!(PyProof.Rows.listOrd PyProof.Rows.itemOrd).blt (PySem.W.keyToks (kD b)) (PySem.W.keyToks (kD a))) = true := h1
      simpa using h1'
  cases a with
  | inl i => cases b with
    | inl j =>
      have e' : [(Sum.inl i : Int ⊕ List Nat)] = [Sum.inl j] := by simpa [kD, PySem.W.keyToks] using e
      injection e' with e' _
      injection e' with e'
      rw [e']
    | inr y => simp [kD, PySem.W.keyToks] at e
  | inr x => cases b with
    | inl j => simp [kD, PySem.W.keyToks] at e
    | inr y =>
      have e' : x.cps = y.cps := by simpa [kD, PySem.W.keyToks] using e
      cases x; cases y
      simp only at e'
      rw [e']
theorem sortK_perm {L L' : List Key} (p : L.Perm L') : sortK L = sortK L' :=
  List.Perm.eq_of_pairwise (fun a b _ _ h1 h2 => leK_anti h1 h2) (PySem.W.sort_pairwise leK_total L) (PySem.W.sort_pairwise leK_total L') ((List.mergeSort_perm L _).trans (p.trans (List.mergeSort_perm L' _).symm))
theorem each_perm {l : List (Int × Value)} {w : World} (g : ∀ e ∈ l, GoodU w e) : ∀ {vs : List Value}, (∀ v ∈ vs, ∃ e ∈ l, e.2 = v) → PySem.W.EachIs (fun v k => RelV (kV k) v) vs (vs.map keyU)
  | [], _ => .nil
  | v :: vs, h => by
    obtain ⟨e, he, q⟩ := h v List.mem_cons_self
    obtain ⟨k, h1, _⟩ := g e he
    rw [q] at h1
    exact .cons (by rw [keyU_of h1]; exact h1) (each_perm g fun u hu => h u (List.mem_cons_of_mem _ hu))
theorem kD_depth (k : Key) : (kD k).depth ≤ 1 := by cases k <;> simp [kD, PyData.depth]
section
variable {P : Program} {w : World} {A : Around} {E : Value → Shared → Prop} {s : Shared} {a : Addr} {L : List Key}
theorem sorted_setG {Q : Value → Shared → Prop} (R : SetG w s.heap a L) (hl : KLike L) (hh : A.handled = none) (hu : A.units + 4 < cLine)
    (hQ : ∀ s' p (out : Array Value) (c : Nat), (∀ b o, s.heap.get? b = some o → s'.heap.get? b = some o) → s'.gens = s.gens → s'.os = s.os → s.heap.objs.size ≤ p →
      s'.heap.get? p = some (seqObj "list" out c) → PySem.W.EachIs (fun v k => RelV (kV k) v) out.toList (sortK L) → Q (.ref p) s') :
    wpAny (model P w) A (call (.builtin "sorted") [.ref a]) Q E s := by
  obtain ⟨o, es, ep, t, ho, hex, hd, g, pL, nd, hb, hf, hr, hled⟩ := R
  refine Calls.call_function_entry kind_sorted plain_sorted entry_sorted (args_sorted1 _) ?_
  unfold Builtin.«sorted»
  refine wpAny_bind (m := checkCount "sorted" 1 1 _) (wpAny_pure ?_)
  refine wpAny_bind (collect_set (A := A.in1) hh ⟨o, ho, hex.1, hd⟩ hf hb hr hled fun s1 vs k1 hz g1 o1 pm => ?_)
  have hvl : vs.length = es.size := by rw [pm.length_eq, List.length_map, Array.length_toList]
  have pk : (vs.map keyU).Perm L := by
    have q := pm.map keyU
    rw [List.map_map] at q
    exact q.trans pL
  have er : PySem.W.EachIs (fun v k => RelV (kV k) v) vs (vs.map keyU) := each_perm g fun v hv => by
    obtain ⟨e, he, q⟩ := List.mem_map.mp (pm.mem_iff.mp hv)
    exact ⟨e, he, q⟩
  have hl' : KLike (vs.map keyU) := hl.imp (fun h k hk => h k (pk.mem_iff.mp hk)) (fun h k hk => h k (pk.mem_iff.mp hk))
  have hfit : vs.length ≤ sizeLine := by rw [hvl]; exact fits_of_scanBound hb
  refine wpAny_bind (wpAny_newList ?_ hfit)
  have hoL : (s1.heap.push (seqObj "list" vs.toArray 0)).get? s1.heap.objs.size = some (seqObj "list" vs.toArray 0) := Heap.get?_push_size _ rfl
  refine wpAny_bind (wpAny_holding (PySem.W.list_sort_data (s := { s1 with heap := s1.heap.push (seqObj "list" vs.toArray 0) }) (enc := kD) hoL er (er.mono fun v k r => ⟨[], reads_key r, by simp⟩) hl'.alike (KLike.sortable _) (by rw [List.length_map]; exact hfit) (fun b _ => by
    have h1 := kD_depth b
    have h2 : A.in1.units = A.units + 1 := rfl
    omega) fun out ho1 eo => ?_))
  obtain ⟨c, hc⟩ := sortedHeap_at (vs := vs) (out := out.toArray) hoL
  refine wpAny_pure ⟨_, rfl, hQ _ s1.heap.objs.size out.toArray c (fun b u e => ?_) g1 o1 hz hc ?_⟩
  · have q := k1 b u e
    have hlt := Heap.lt_size q
    show (sortedHeap (s1.heap.push (seqObj "list" vs.toArray 0)) s1.heap.objs.size vs out.toArray).get? b = some u
    rw [sortedHeap_old (Nat.ne_of_lt hlt) (by rw [size_push']; exact Nat.lt_succ_of_lt hlt)]
    exact Heap.get?_push_of_some _ q
  · have e1 : sortK (vs.map keyU) = sortK L := sortK_perm pk
    unfold sortK at e1
    rw [e1] at eo
    exact eo
end
theorem vals_each : ∀ {out : List Value} {zs : List Key}, PySem.W.EachIs (fun v k => RelV (kV k) v) out zs → Vals (zs.map kV) out
  | _, _, .nil => .nil
  | _, _, .cons h t => .cons h (vals_each t)
section
variable {X : Cx}
def tSortSet (K : PySem.W.Frag) (ta : TA) : TE := fun σ H Q => ta σ H fun us H1 => ∃ l xs, us = [.ref l] ∧ SqL K H1 l (xs.map kV) ∧ KLike xs ∧ xs.length < 4000 ∧ ∀ p, H1 p = none → Q (.ref p) (upd H1 p (.lst ((sortK (dedU xs)).map kV)))
def tLenSetK (K : PySem.W.Frag) (ta : TA) : TE := fun σ H Q => ta σ H fun us H1 => ∃ l xs, us = [.ref l] ∧ SqL K H1 l (xs.map kV) ∧ xs.length < 4000 ∧ Q (.int ((dedU xs).length : Nat)) H1
theorem dedU_mem [DecidableEq α] (xs : List α) (x : α) : x ∈ dedU xs → x ∈ xs := by
  have : ∀ (xs L : List α), x ∈ xs.foldl addU L → x ∈ L ∨ x ∈ xs := by
    intro xs
    induction xs with
    | nil => intro L h; exact .inl h
    | cons y xs ih =>
      intro L h
      rcases ih _ h with h | h
      · unfold addU at h
        split at h
        · exact .inl h
        · rcases List.mem_append.mp h with h | h
          · exact .inl h
          · rw [List.mem_singleton.mp h]; exact .inr List.mem_cons_self
      · exact .inr (List.mem_cons_of_mem _ h)
  intro h
  exact (this xs [] h).resolve_left (by simp)
theorem pe_sortSet {a : Expr} {ta : TA} {p p2 q pos : Pos} (hu : X.A.units + 65 < cLine) (hc : X.calm = true) (hg : Gl X "sorted") (hm : X.mg "sorted" = none) (hg2 : Gl X "set") (hm2 : X.mg "set" = none) (ha : PA X [a] ta)
    (na : starEach [a] X.env = (false, eval a X.env) :: starEach [] X.env) : PE X (.Call (.Name "sorted" p) [.Call (.Name "set" p2) [a] [] q] [] pos) (tSortSet X.K ta) := by
  refine ⟨fun pins s σ H Q I h => ?_⟩
  refine Call_ (ld_blt I hg hm PyProof.Rows.boot_sorted ?_)
  refine PyProof.Rows.callWith_builtin1 (PyProof.Rows.args_cons ?_ rfl) rfl rfl
  refine Call_ (ld_blt I hg2 hm2 PyProof.Rows.boot_set ?_)
  refine PyProof.Rows.callWith_type1 (thn (ha.run q pins s σ H _ I h) fun us s1 ⟨vs, H1, I1, r1, q1⟩ => ?_) na rfl
  obtain ⟨l, xs, rfl, hq, hk, hn, q1⟩ := q1
  rw [Vals.ref1 r1]
  obtain ⟨its, r, pl, hz⟩ := I1.list hq
  refine call_setG xs (I1.ok.hd hc) pl.isList (by simpa using r) (by unfold scanBound; omega) fun h' tk hS hk' => ?_
  have I2 : Inv X pins σ H1 { s1 with heap := h', toks := tk } := I1.kept fun b o e => hk' b o (Heap.lt_size e) e
  have hkl : KLike (dedU xs) := hk.imp (fun h k hk => h k (dedU_mem _ _ hk)) (fun h k hk => h k (dedU_mem _ _ hk))
  refine PyProof.Rows.args_nil ?_
  refine sorted_setG (s := { s1 with heap := h', toks := tk }) hS hkl (I2.ok.hd hc) (by omega) fun s' p out c k g o hp hgp eo => ?_
  have hpn : H1 p = none := I2.hok.fresh hp
  have hlen : ((sortK (dedU xs)).map kV).length ≤ sizeLine := by
    rw [List.length_map]
    unfold sortK
    rw [List.length_mergeSort]
    have := dedU_len xs
    rw [sizeLine_eq]; omega
  have J : Inv X pins σ (upd H1 p (.lst ((sortK (dedU xs)).map kV))) { { s1 with heap := h', toks := tk } with heap := s'.heap, gens := s'.gens, drawn := s'.drawn, toks := s'.toks } :=
    I2.call (ch := []) (Un.laid k hp hpn) (I2.hok.laid k hp ⟨hlen, out.toList, c, vals_each eo, hgp⟩) (by rw [g]; exact I2.bare) (fun _ z => nomatch z)
  have e : s' = { { s1 with heap := h', toks := tk } with heap := s'.heap, gens := s'.gens, drawn := s'.drawn, toks := s'.toks } := by
    cases s'
    cases s1
    cases o
    rfl
  rw [e]
  exact ⟨.ref p, _, J, rfl, q1 p hpn⟩
theorem pe_lenSetK {a : Expr} {ta : TA} {p p2 q pos : Pos} (hc : X.calm = true) (hg : Gl X "len") (hm : X.mg "len" = none) (hg2 : Gl X "set") (hm2 : X.mg "set" = none) (ha : PA X [a] ta)
    (na : starEach [a] X.env = (false, eval a X.env) :: starEach [] X.env) : PE X (.Call (.Name "len" p) [.Call (.Name "set" p2) [a] [] q] [] pos) (tLenSetK X.K ta) := by
  refine ⟨fun pins s σ H Q I h => ?_⟩
  refine Call_ (ld_blt I hg hm PySem.boot_len ?_)
  refine PyProof.Rows.callWith_builtin1 (PyProof.Rows.args_cons ?_ rfl) rfl rfl
  refine Call_ (ld_blt I hg2 hm2 PyProof.Rows.boot_set ?_)
  refine PyProof.Rows.callWith_type1 (thn (ha.run q pins s σ H _ I h) fun us s1 ⟨vs, H1, I1, r1, q1⟩ => ?_) na rfl
  obtain ⟨l, xs, rfl, hq, hn, q1⟩ := q1
  rw [Vals.ref1 r1]
  obtain ⟨its, r, pl, hz⟩ := I1.list hq
  refine call_setG xs (I1.ok.hd hc) pl.isList (by simpa using r) (by unfold scanBound; omega) fun h' tk hS hk' => ?_
  have I2 : Inv X pins σ H1 { s1 with heap := h', toks := tk } := I1.kept fun b o e => hk' b o (Heap.lt_size e) e
  refine PyProof.Rows.args_nil ?_
  obtain ⟨o, es, ep, t, ho, hex, hd, g, pL, nd, hb, hf, hr, hled⟩ := hS
  have hn2 : es.size = (dedU xs).length := by rw [← pL.length_eq, List.length_map, Array.length_toList]
  have := dedU_len xs
  refine call_len_set ho hex hd hf (by rw [hn2] <;> omega) ⟨.int ((dedU xs).length : Nat), H1, I2.tok _, ⟨_, by rw [hn2]⟩, q1⟩
end
end MI

set_option Elab.async false
set_option linter.all false
set_option maxRecDepth 100000
/-! MIg: subscripts, slices, built-ins, methods by values. -/
namespace MI
open PySem PySem.Spec PyProof.Rows L2
theorem ixN_eq (n : Nat) (i : Int) : MI.ixN n i = L2.ixN n i := rfl
theorem sIx_eq (n d : Nat) (o : Option Int) : MI.sIx n d o = HT.sIx n d o := by cases o <;> rfl
def rIxD : R2 := fun x y H Q => ∃ a v, x = .ref a ∧ DGet H a y (some v) ∧ Q v H
def rIxA (K : PySem.W.Frag) : R2 := fun x y H Q => rIx K x y H Q ∨ rIxD x y H Q
section
variable {X : Cx}
theorem ix_dict (hu : X.A.units + 1 < cLine) : IxR X rIxD := by
  intro value slice pins s σ H x y v u Q I rx ry h hs
  obtain ⟨a, z, rfl, g, q⟩ := h
  cases rx
  exact tail_any (ops := [.ref a, u]) (dict_typeIs I g) PySem.F.slot_dict_getitem.lookup (d_getItem hu I g ry fun w' s' I' rw' => ⟨z, H, I', rw', q⟩) hs
theorem ix_all (hu : X.A.units + 1 < cLine) : IxR X (rIxA X.K) := IxR.or ix_seq (ix_dict hu)
def rSlX (K : PySem.W.Frag) : V → Option Int → Option Int → Hp → VK → Prop := fun x lo hi H Q => rSlL K x lo hi H Q ∨ rSlA K x lo hi H Q ∨ rSlS x lo hi H Q
theorem sl_all : SlR X (rSlX X.K) := SlR.or sl_list (SlR.or sl_tupA sl_str)
end
section
variable {K : KK} {ι : List Addr} {H : Hp} {M : Sto}
theorem Reps.atI {ds : List D} {vs : List V} {i : Int} {d : D} (r : Reps K ι H ds vs) (e : MI.atI ds i = some d) : ∃ v, L2.atI vs i = some v ∧ Rep K ι H d v ∧ homed d = true := by
  unfold MI.atI at e
  obtain ⟨j, e1, e2⟩ := Option.bind_eq_some_iff.mp e
  obtain ⟨v, h1, h2⟩ := r.get e2
  refine ⟨v, ?_, h2⟩
  unfold L2.atI
  rw [← r.length, ← ixN_eq, e1]
  exact h1
theorem ixN_get {α : Type} {xs : List α} {i : Int} {j : Nat} (h : L2.ixN xs.length i = some j) : j < xs.length := (ixN_seq h).2.1
theorem ops_ix : OpS K (rIxA K.K) ixop := by
  intro ι H M x y vx vy Q E m rx ry h
  unfold ixop at h
  split at h
  · rename_i t ks vs ed
    obtain ⟨hk, h⟩ := post_ite h
    obtain ⟨v, ev, h⟩ := post_ofO h
    obtain ⟨a, us, rfl, h1, h2⟩ := dicOf_rep m ed rx
    obtain ⟨o, g, h3⟩ := dget_rep h1 h2 hk ry
    rcases h3 with ⟨h3, _⟩ | ⟨d, u, h3, rfl, h4, h5⟩
    · rw [h3] at ev; cases ev
    · rw [h3] at ev; cases ev
      exact .inr ⟨a, u, rfl, g, post_val h m h4 (fresh_homed h5)⟩
  · split at h
    · obtain ⟨hz, h⟩ := post_lim h
      obtain ⟨c, ec, h⟩ := post_ofO h
      simp only [Rep] at rx ry; subst rx ry
      exact .inl (.inr (.inr ⟨_, _, c, rfl, rfl, by simpa only [str_len] using hz, ec, post_val h m (rep_str [c]) trivial⟩))
    · rename_i x' i hne
      obtain ⟨xs, ex, h⟩ := post_ofO h
      obtain ⟨d, ed, h⟩ := post_ofO h
      obtain ⟨a, vs, rfl, h1, h2⟩ := items_rep m ex rx
      simp only [Rep] at ry; subst ry
      obtain ⟨v, h3, h4, h5⟩ := h2.atI ed
      have q := post_val h m h4 (fresh_homed h5)
      rcases h1 with h1 | ⟨_, h1⟩
      · exact .inl (.inl ⟨a, vs, i, v, rfl, rfl, h1, h3, q⟩)
      · exact .inl (.inr (.inl ⟨a, vs, i, v, rfl, rfl, h1, h3, q⟩))
    · exact h.elim
theorem Reps.cut {ds : List D} {vs : List V} (r : Reps K ι H ds vs) (lo hi : Option Int) : Reps K ι H (MI.cut ds lo hi) (cutV vs lo hi) := by
  unfold MI.cut cutV
  rw [sIx_eq, sIx_eq, ← r.length]
  exact (r.drop _).take _
theorem cut_whole {α : Type} {xs : List α} {lo hi : Option Int} (h : HT.sIx xs.length 0 lo = 0 ∧ HT.sIx xs.length xs.length hi = xs.length) : MI.cut xs lo hi = xs := by
  unfold MI.cut
  rw [sIx_eq, sIx_eq, h.1, h.2]
  simp
theorem cutS_eq (s : List Nat) (lo hi : Option Int) : cutS ⟨s.toArray⟩ lo hi = ⟨(MI.cut s lo hi).toArray⟩ := by
  unfold cutS MI.cut
  simp only [sIx_eq, str_len]
theorem slop_rep (m : RelM K ι H M) {x : D} {lo hi : Option Int} {vx : V} {Q : VK} {E : XK} (rx : Rep K ι H x vx) (h : post K (RV K) ι H (slop x lo hi M) Q E) : rSlX K.K vx lo hi H Q := by
  unfold slop at h
  split at h
  · obtain ⟨hz, h⟩ := post_lim h
    simp only [Rep] at rx; subst rx
    exact .inr (.inr ⟨_, rfl, by simpa only [str_len] using hz, by rw [cutS_eq]; exact post_val h m (rep_str _) trivial⟩)
  · simp only [Rep] at rx
    obtain ⟨a, vs, rfl, sa, ra⟩ := rx
    obtain ⟨np, h⟩ := post_nif h
    refine .inr (.inl ⟨a, vs, rfl, sa.sqt, fun hw => ?_, fun _ => post_tup (by simpa using np) h m (ra.cut lo hi)⟩)
    rw [← ra.length] at hw
    exact post_val h m (by rw [cut_whole hw]; simp only [Rep]; exact ⟨a, vs, rfl, sa, ra⟩) trivial
  · exact h.elim
  · rename_i hn1 hn2 hn3
    obtain ⟨xs, ex, h⟩ := post_ofO h
    obtain ⟨a, vs, rfl, h1, h2⟩ := items_rep m ex rx
    rcases h1 with h1 | ⟨ht, _⟩
    · exact .inl ⟨a, vs, rfl, h1, post_lst h m (h2.cut lo hi)⟩
    · cases x with
      | tup ys => exact (hn2 ys rfl).elim
      | ktp ys => exact (hn3 ys rfl).elim
      | _ => simp [isTup] at ht
theorem revop_rep (m : RelM K ι H M) {x : D} {vx : V} {Q : VK} {E : XK} (rx : Rep K ι H x vx) (h : post K (RV K) ι H (revop x M) Q E) :
    ∃ a xs, vx = .ref a ∧ SqL K.K H a xs ∧ ∀ p, H p = none → Q (.ref p) (upd H p (.lst xs.reverse)) := by
  unfold revop at h
  split at h
  · exact h.elim
  · exact h.elim
  · rename_i hn1 hn2
    obtain ⟨xs, ex, h⟩ := post_ofO h
    obtain ⟨a, vs, rfl, h1, h2⟩ := items_rep m ex rx
    rcases h1 with h1 | ⟨ht, _⟩
    · exact ⟨a, vs, rfl, h1, post_lst h m h2.reverse⟩
    · cases x with
      | tup ys => exact (hn1 ys rfl).elim
      | ktp ys => exact (hn2 ys rfl).elim
      | _ => simp [isTup] at ht
end
end MI

set_option Elab.async false
set_option linter.all false
set_option maxRecDepth 100000
/-! MIga: tuples known to the object; dict of a tuple of pairs; dict.get. -/
namespace MI
open PySem PySem.Spec PyProof.Rows L2
section
variable {X : Cx}
/-- tuple(xs) -/
theorem call_tupleF : CallR X (.type "tuple") (fun xs H Q => ∃ p ys, xs = [.ref p] ∧ ((SqL X.K H p ys ∧ ∃ b : Bool, ∀ l o, H l = none → o.dict = none → Q (.ref l) (upd H l (newT b o ys))) ∨ (SqT X.K H p ys ∧ Q (.ref p) H))) := by
  intro pins s σ H xs us Q I r h
  obtain ⟨p, ys, rfl, h⟩ := h
  obtain ⟨u, rfl, rx⟩ := vals1 r
  cases rx
  rcases h with ⟨hq, b, q⟩ | ⟨hq, q⟩
  · obtain ⟨its, r', pl, hz⟩ := I.list hq
    have hlen := r'.length
    refine call_tuple_list pl.isList (fun h' kp => ?_) (by simp only [List.size_toArray] <;> omega)
    have I1 : Inv X pins σ H { s with heap := h' } := I.kept (t' := s.toks) kp
    have I2 : Inv X pins σ (upd H h'.objs.size (newT b { cls := .type "tuple", data := .seq its.toArray } ys)) { s with heap := h'.push { cls := .type "tuple", data := .seq its.toArray } } :=
      I1.laid (t' := s.toks) (fun b o e => Heap.get?_push_of_some _ e) (Nat.le_refl _) (by
        have h0 : ∀ H0, ObjOk X.prog X.w H0 (h'.push { cls := .type "tuple", data := .seq its.toArray }) h'.objs.size (.tup ys) := fun H0 => ⟨hz, its, r', IsTup.new _ _⟩
        unfold newT
        cases b with
        | false => exact h0 _
        | true => exact ⟨Heap.get?_push_size _ rfl, h0 _⟩)
    exact ⟨.ref h'.objs.size, _, I2, rfl, q _ _ (I1.hok.fresh (Nat.le_refl _)) rfl⟩
  · obtain ⟨its, r', pl, hz⟩ := I.tuple hq
    exact call_tuple_same pl ⟨.ref p, H, I, rfl, q⟩
def tTupF (t : TA) : TE := fun σ H Q => t σ H fun xs H1 => xs.length ≤ sizeLine ∧ ∃ b : Bool, ∀ p o, H1 p = none → o.dict = none → Q (.ref p) (upd H1 p (newT b o xs))
/-- (a, b, ..) -/
theorem pe_tupF {es : List Expr} {t : TA} {x1} {pos : Pos} (h : PA X es t) : PE X (.Tuple es x1 pos) (tTupF t) := by
  refine ⟨fun pins s σ H Q I hq => ?_⟩
  refine wpAny_Tuple_spliced (thn (h.run pos pins s σ H _ I hq) fun us s1 ⟨xs, H1, I1, r, z, b, q⟩ => ⟨by rw [← r.length]; exact z, ?_⟩)
  have hf : H1 s1.heap.objs.size = none := I1.hok.fresh (Nat.le_refl _)
  have h0 : ∀ H0, ObjOk X.prog X.w H0 (s1.heap.push { cls := .type "tuple", data := .seq us.toArray }) s1.heap.objs.size (.tup xs) := fun H0 => ⟨z, us, r, ⟨_, Heap.get?_push_size _ rfl, rfl, _, rfl⟩⟩
  refine ⟨.ref s1.heap.objs.size, upd H1 s1.heap.objs.size (newT b { cls := .type "tuple", data := .seq us.toArray } xs), I1.laid (t' := s1.toks) (fun b u e => Heap.get?_push_of_some _ e) (Nat.le_refl _) ?_, rfl, q _ _ hf rfl⟩
  unfold newT
  cases b with
  | false => exact h0 _
  | true => exact ⟨Heap.get?_push_size _ rfl, h0 _⟩
theorem rows_of {pins : List (Addr × Obj)} {σ : L2.St} {H : Hp} {s : Shared} (I : Inv X pins σ H s) : ∀ {ps : List Addr} {kvs : List (Key × V)}, Paired (fun p kv => SqT X.K H p [kV kv.1, kv.2]) ps kvs →
    ∃ (rows : List (Value × Value)) (prs : List (Key × Value)), KV kvs prs ∧ prs.length = ps.length ∧ rows.length = ps.length ∧ ∀ (j : Nat) (u v : Value), rows[j]? = some (u, v) → ∃ (b : Addr) (k : Key), ps[j]? = some b ∧ prs[j]? = some (k, v) ∧ IsTup s.heap b #[u, v] ∧ keyIs k u = true
  | _, _, .nil => ⟨[], [], .nil, rfl, rfl, fun j u v e => by simp at e⟩
  | _, _, .cons (a := p) (b := kv) h t => by
    obtain ⟨rows, prs, r, hl, hl2, hp⟩ := rows_of I t
    obtain ⟨its, rv, ht, _⟩ := I.tuple h
    obtain ⟨u, y, ei, ru, ry⟩ := vals2 rv
    subst ei
    refine ⟨(u, y) :: rows, (kv.1, y) :: prs, .cons ⟨rfl, ry⟩ r, by simp [hl], by simp [hl2], fun j u' v' e => ?_⟩
    cases j with
    | zero =>
      simp at e
      obtain ⟨rfl, rfl⟩ := e
      exact ⟨p, kv.1, rfl, rfl, ht, kV_is (P := X.prog) (w := X.w) ru⟩
    | succ j =>
      obtain ⟨b, k, e1, e2, e3, e4⟩ := hp j u' v' (by simpa using e)
      exact ⟨b, k, by simpa using e1, by simpa using e2, e3, e4⟩
/-- dict(t), t a tuple of pairs known to the object -/
theorem call_dictTp (hcalm : X.calm = true) : CallR X (.type "dict") (fun xs H Q => ∃ (a : Addr) (o : Obj) (ps : List Addr) (kvs : List (Key × V)), xs = [.ref a] ∧ H a = some (.frz o (.tup (ps.map V.ref))) ∧ o.dict = none ∧ Paired (fun p kv => SqT X.K H p [kV kv.1, kv.2]) ps kvs ∧
    ∀ p, H p = none → Q (.ref p) (upd H p (.dK (mergeK [] kvs)))) := by
  intro pins s σ H xs us Q I r q
  obtain ⟨a, o, ps, kvs, ex, ha, hd, hp, q⟩ := q
  subst ex
  obtain ⟨u, eu, rx⟩ := vals1 r
  subst eu
  cases rx
  obtain ⟨ho, hz, its, rv, o', ho', hc, n, hdat⟩ := I.hok a _ ha
  have eo : o' = o := by rw [ho] at ho'; exact (Option.some.inj ho').symm
  subst eo
  have ei := refs_at rv
  subst ei
  rw [List.length_map] at hz
  obtain ⟨rows, prs, rel, hl, hl2, hrow⟩ := rows_of I hp
  have Pr := PySem.PairArg.tuple (prog := X.prog) (w := X.w) a (ps.map Value.ref).toArray (fun j => ps.getD j 0) rows
  refine PySem.call_dict_pairs (knd := mixKind X.prog X.w) (kvs := prs) Pr (I.ok.hd hcalm) ⟨⟨o', n, ho, hc, hd, hdat⟩, by simp [hl2], fun j k v hj => ?_⟩ ⟨by rw [hl, hl2], fun i key v hr => ?_⟩ (by rw [hl2]; exact hz) fun h' tk hd' hk => ?_
  · obtain ⟨b, k', e1, e2, e3, e4⟩ := hrow j k v hj
    have eb : ps.getD j 0 = b := by simp [List.getD, e1]
    show (List.map Value.ref ps).toArray[j]? = some (Value.ref (ps.getD j 0)) ∧ PySem.PairAt s.heap (ps.getD j 0) k v
    rw [eb]
    refine ⟨by simp [e1], ?_⟩
    exact .inl e3
  · obtain ⟨b, k', e1, e2, e3, e4⟩ := hrow i key v hr
    exact ⟨k', e2, e4⟩
  · have hm : (s.heap.objs.size == sysModules) = false := beq_eq_false_iff_ne.mpr (Nat.ne_of_gt I.big)
    have hlen : (mergeK [] kvs).length ≤ sizeLine := by
      refine Nat.le_trans (length_mergeK kvs []) ?_
      rw [List.length_nil, Nat.zero_add, rel.length, hl]
      exact hz
    exact ⟨.ref s.heap.objs.size, upd H s.heap.objs.size (.dK (mergeK [] kvs)), I.laid (t' := tk) (fun b o e => hk b o (by simp) e) (Nat.le_refl _) (show ObjOk X.prog X.w _ _ _ (.dK (mergeK [] kvs)) from ⟨hlen, hm, merged [] prs, KV.merge rel .nil, hd'⟩), rfl, q _ (I.hok.fresh (Nat.le_refl _))⟩
/-- d.get(k) -/
theorem mt_dget (hu : X.A.units + 1 < cLine) : MtR X "dict.get" (fun x xs H Q => ∃ a y o, x = .ref a ∧ xs = [y] ∧ DGet H a y o ∧ Q (o.getD .non) H) := by
  intro pins s σ H x xs v us Q I rx rxs h
  obtain ⟨a, y, o, rfl, rfl, g, q⟩ := h
  cases rx
  obtain ⟨u, rfl, ru⟩ := rxs.one
  exact d_get1 hu I g ru fun w' s3 I3 rw' => ⟨_, H, I3, rw', q⟩
end
end MI

set_option Elab.async false
set_option linter.all false
set_option maxRecDepth 100000
/-! MIh: built-ins, methods by values. -/
namespace MI
open PySem PySem.Spec PyProof.Rows L2
section
variable {X : Cx}
theorem iter_tupA {prog : Program} {w : World} {A : Around} {E : Value → Shared → Prop} {s : Shared} {l : Addr} {items : Array Value} {Q : Value → Shared → Prop} (hl : s.heap.IsTuple l items)
    (h : ∀ s₂ : Shared, s₂ = { s with heap := s.heap.push { cls := .type "tuple_iterator", data := .fields #[.ref l, .int 0 0] } } →
      (s₂.heap.IsTupleIter s.heap.objs.size l 0 ∧ s₂.heap.IsTuple l items) → l ≠ s.heap.objs.size → Q (.ref s.heap.objs.size) s₂) : wpAny (model prog w) A (pyIter (.ref l)) Q E s := by
  have hlt : l < s.heap.objs.size := by obtain ⟨_, e, _⟩ := hl; exact Heap.lt_size e
  exact wpAny_pyIter_tuple hl (h _ rfl ⟨⟨_, Heap.get?_push_size _ rfl, rfl, rfl⟩, hl.push _⟩ (Nat.ne_of_lt hlt))
def rAllT (K : PySem.W.Frag) : List V → Hp → VK → Prop := fun vs H Q => ∃ (a : Addr) (bs : List Bool), vs = [V.ref a] ∧ SqT K H a (bs.map V.bl) ∧ Q (.bl (bs.all id)) H
def rAnyT (K : PySem.W.Frag) : List V → Hp → VK → Prop := fun vs H Q => ∃ (a : Addr) (bs : List Bool), vs = [V.ref a] ∧ SqT K H a (bs.map V.bl) ∧ Q (.bl (bs.any id)) H
theorem cr_allT (hc : X.calm = true) : CallR X (.builtin "all") (rAllT X.K) := by
  intro pins s σ H vs us Q I r h
  obtain ⟨a, bs, rfl, hs, q⟩ := h
  obtain ⟨its, rv, hl, _⟩ := I.tuple hs
  rw [Vals.ref1 r]
  have hb := rv.bls
  refine call_all_walk (iter_tupA (show s.heap.IsTuple a its.toArray from hl) fun s₂ e2 st hne => ?_)
  subst e2
  refine ⟨_, _, _, _, _, _, _, rfl, Walks.tuple (A := X.A.in1) (I.ok.hd hc) _ a hne its.toArray, st, truth_bools hb, fun h' tk hk => ?_⟩
  refine ⟨.bl _, H, I.kept fun b o eo => hk b o (fun hmem => ?_) (Heap.get?_push_of_some _ eo), ?_, q⟩
  · rcases List.mem_cons.mp hmem with e1 | hmem
    · exact absurd (e1 ▸ Heap.lt_size eo) (Nat.lt_irrefl _)
    · cases hmem
  · show Value.bool _ = Value.bool _
    rw [← L2.all_range, hb, List.size_toArray, List.length_map]
theorem cr_anyT (hc : X.calm = true) : CallR X (.builtin "any") (rAnyT X.K) := by
  intro pins s σ H vs us Q I r h
  obtain ⟨a, bs, rfl, hs, q⟩ := h
  obtain ⟨its, rv, hl, _⟩ := I.tuple hs
  rw [Vals.ref1 r]
  have hb := rv.bls
  refine call_any_walk (iter_tupA (show s.heap.IsTuple a its.toArray from hl) fun s₂ e2 st hne => ?_)
  subst e2
  refine ⟨_, _, _, _, _, _, _, rfl, Walks.tuple (A := X.A.in1) (I.ok.hd hc) _ a hne its.toArray, st, truth_bools hb, fun h' tk hk => ?_⟩
  refine ⟨.bl _, H, I.kept fun b o eo => hk b o (fun hmem => ?_) (Heap.get?_push_of_some _ eo), ?_, q⟩
  · rcases List.mem_cons.mp hmem with e1 | hmem
    · exact absurd (e1 ▸ Heap.lt_size eo) (Nat.lt_irrefl _)
    · cases hmem
  · show Value.bool _ = Value.bool _
    rw [← L2.any_range, hb, List.size_toArray, List.length_map]
def rLenD : List V → Hp → VK → Prop := fun xs H Q => ∃ a, xs = [.ref a] ∧ ((∃ kvs : List (Key × V), H a = some (.dK kvs) ∧ Q (.int kvs.length) H) ∨ ∃ kvs : List (List Key × V), H a = some (.dT kvs) ∧ Q (.int ((kvs.length : Nat) : Int)) H)
theorem call_lenDk : CallR X (.builtin "len") rLenD := by
  rintro pins s σ H xs us Q I r ⟨a, rfl, ⟨kvs, e, q⟩ | ⟨kvs, e, q⟩⟩
  · rw [Vals.ref1 r]
    exact d_len I (Rd.of e) fun t s' I' => ⟨.int kvs.length, H, I', ⟨t, rfl⟩, q⟩
  · exact call_len_dT pins s σ H _ us Q I r ⟨a, kvs, rfl, e, q⟩
/-- list.count of flat things -/
def rCnt (K : PySem.W.Frag) : V → List V → Hp → VK → Prop := fun x xs H Q => ∃ (p : Addr) (ys : List V) (y : V), x = .ref p ∧ xs = [y] ∧ SqL K H p ys ∧ flatV y = true ∧ ys.all flatV = true ∧ Q (.int ((ys.countP fun z => eqV z y : Nat) : Int)) H
theorem countP_eqU {x : V} : ∀ {xs : List V} {us : List Value}, Vals xs us → xs.all flatV = true → us.countP (eqU x) = xs.countP fun y => eqV y x
  | _, _, .nil, _ => rfl
  | y :: xs, u :: us, .cons r t, f => by
    rw [List.all_cons, Bool.and_eq_true] at f
    rw [List.countP_cons, List.countP_cons, eqU_of r f.1, countP_eqU t f.2]
theorem mt_cnt : MtR X "list.count" (rCnt X.K) := by
  intro pins s σ H x xs v us Q I rx rxs h
  obtain ⟨p, ys, y, rfl, rfl, hs, fy, fa, q⟩ := h
  cases rx
  obtain ⟨u, rfl, ru⟩ := rxs.one
  obtain ⟨its, rv, ⟨⟨cls, dd, data, sl⟩, n, ho, hc, hdn, hd⟩, hlen⟩ := I.list hs
  simp only at hc hd
  subst hc hd
  refine call_meets PySem.F.slot_list_count ⟨_, ho, rfl⟩ PySem.F.entry_list_count (PySem.F.args_list_count_2 _ _)
    (SeqAt.list_countAt p its.toArray n dd sl u (eqU y)) ⟨ho, fun z hz => mem_eqAt ru fy rv fa z (by simpa using hz), ?_⟩
  refine ⟨.int _, H, I.tok _, ⟨s.toks, ?_⟩, q⟩
  show Value.int ((its.toArray.toList.countP (eqU y) : Nat) : Int) s.toks = _
  rw [show its.toArray.toList = its from rfl, countP_eqU rv fa]
end
/-! ### built-ins by name -/
def BI.val : BI → Value
  | .len => .builtin "len"
  | .all => .builtin "all"
  | .any => .builtin "any"
  | .sum => .builtin "sum"
  | .min2 => .builtin "min"
  | .max2 => .builtin "max"
  | .minL => .builtin "min"
  | .int => .type "int"
  | .str => .type "str"
  | .tuple => .type "tuple"
  | .list => .type "list"
  | .sorted => .builtin "sorted"
  | .lenset => .builtin "len"
  | .sortset => .builtin "sorted"
  | .dict => .type "dict"
def BI.nm : BI → Str
  | .len => "len"
  | .all => "all"
  | .any => "any"
  | .sum => "sum"
  | .min2 => "min"
  | .max2 => "max"
  | .minL => "min"
  | .int => "int"
  | .str => "str"
  | .tuple => "tuple"
  | .list => "list"
  | .sorted => "sorted"
  | .lenset => "len"
  | .sortset => "sorted"
  | .dict => "dict"
theorem BI.boot (b : BI) : bootBuiltins b.nm = some b.val := by cases b <;> decide +kernel
def rBi (K : PySem.W.Frag) (b : BI) : List V → Hp → VK → Prop := match b with
  | .len => fun xs H Q => (∃ x n, xs = [x] ∧ LenV K x H n ∧ Q (.int n) H) ∨ rLenD xs H Q
  | .all => fun xs H Q => rAll K xs H Q ∨ rAllT K xs H Q
  | .any => fun xs H Q => rAny K xs H Q ∨ rAnyT K xs H Q
  | .sum => rSum K
  | .min2 => fun xs H Q => ∃ i j, xs = [.int i, .int j] ∧ Q (.int (if j < i then j else i)) H
  | .max2 => fun xs H Q => ∃ i j, xs = [.int i, .int j] ∧ Q (.int (if j > i then j else i)) H
  | .minL => rMin K
  | .int => fun xs H Q => (∃ i, xs = [.int i] ∧ Q (.int i) H) ∨ ∃ k, xs = [.bl k] ∧ Q (.int (if k then 1 else 0)) H
  | .tuple => fun xs H Q => ∃ p ys, xs = [.ref p] ∧ ((SqL K H p ys ∧ ∃ b : Bool, ∀ l o, H l = none → o.dict = none → Q (.ref l) (upd H l (newT b o ys))) ∨ (SqT K H p ys ∧ Q (.ref p) H))
  | .dict => fun xs H Q => (∃ (a : Addr) (ps : List Addr) (kvs : List (Key × V)), xs = [.ref a] ∧ SqL K H a (ps.map V.ref) ∧ Paired (fun p kv => SqT K H p [kV kv.1, kv.2]) ps kvs ∧ ∀ p, H p = none → Q (.ref p) (upd H p (.dK (mergeK [] kvs)))) ∨
      (∃ (a : Addr) (o : Obj) (ps : List Addr) (kvs : List (Key × V)), xs = [.ref a] ∧ H a = some (.frz o (.tup (ps.map V.ref))) ∧ o.dict = none ∧ Paired (fun p kv => SqT K H p [kV kv.1, kv.2]) ps kvs ∧ ∀ p, H p = none → Q (.ref p) (upd H p (.dK (mergeK [] kvs))))
  | .list => fun xs H Q => ∃ p ys, xs = [.ref p] ∧ (SqL K H p ys ∨ SqT K H p ys) ∧ ∀ l, H l = none → Q (.ref l) (upd H l (.lst ys))
  | _ => fun _ _ _ => False
theorem callr_bi {X : Cx} (hc : X.calm = true) (b : BI) : CallR X b.val (rBi X.K b) := by
  cases b with
  | len => exact CallR.or call_len call_lenDk
  | all => exact CallR.or (cr_all hc) (cr_allT hc)
  | any => exact CallR.or (cr_any hc) (cr_anyT hc)
  | sum => exact cr_sum hc
  | min2 => exact call_min2 hc
  | max2 => exact call_max2 hc
  | minL => exact cr_min hc
  | int => exact call_int1
  | tuple => exact call_tupleF
  | dict => exact CallR.or (call_dictP hc) (call_dictTp hc)
  | list => exact call_list_of
  | _ => exact fun _ _ _ _ _ _ _ _ _ h => h.elim
section
variable {K : KK} {ι : List Addr} {H : Hp} {M : Sto}
theorem blsOf_rep : ∀ {ds : List D} {vs : List V} {bs : List Bool}, blsOf ds = some bs → Reps K ι H ds vs → vs = bs.map V.bl
  | [], vs, bs, e, r => by cases e; simpa [Reps] using r
  | d :: ds, vs, bs, e, r => by
    cases d <;> simp [blsOf] at e
    rename_i b
    obtain ⟨cs, e, rfl⟩ := e
    simp only [Reps] at r
    obtain ⟨v, u, rfl, h1, h2⟩ := r
    simp only [Rep] at h1
    rw [h1.1, blsOf_rep e h2]; rfl
theorem intsOf_rep : ∀ {ds : List D} {vs : List V} {bs : List Int}, intsOf ds = some bs → Reps K ι H ds vs → vs = bs.map V.int
  | [], vs, bs, e, r => by cases e; simpa [Reps] using r
  | d :: ds, vs, bs, e, r => by
    cases d <;> simp [intsOf] at e
    rename_i b
    obtain ⟨cs, e, rfl⟩ := e
    simp only [Reps] at r
    obtain ⟨v, u, rfl, h1, h2⟩ := r
    simp only [Rep] at h1
    rw [h1.1, intsOf_rep e h2]; rfl
theorem strsOf_rep : ∀ {ds : List D} {vs : List V} {bs : List (List Nat)}, strsOf ds = some bs → Reps K ι H ds vs → vs = (bs.map fun s => (⟨s.toArray⟩ : Str)).map V.str
  | [], vs, bs, e, r => by cases e; simpa [Reps] using r
  | d :: ds, vs, bs, e, r => by
    cases d <;> simp [strsOf] at e
    rename_i b
    obtain ⟨cs, e, rfl⟩ := e
    simp only [Reps] at r
    obtain ⟨v, u, rfl, h1, h2⟩ := r
    simp only [Rep] at h1
    rw [h1.1, strsOf_rep e h2]; rfl
theorem lstItems_rep (m : RelM K ι H M) {d : D} {xs : List D} {v : V} (e : lstItems M d = some xs) (r : Rep K ι H d v) : ∃ a vs, v = .ref a ∧ SqL K.K H a vs ∧ Reps K ι H xs vs := by
  unfold lstItems at e
  split at e
  · cases e
  · rename_i ht
    obtain ⟨a, vs, e1, h1, h2⟩ := items_rep m e r
    rcases h1 with h1 | ⟨h1, _⟩
    · exact ⟨a, vs, e1, h1, h2⟩
    · exact (ht h1).elim
theorem minI_spec : ∀ (ns : List Int), ns ≠ [] → minI ns ∈ ns ∧ ∀ y ∈ ns, minI ns ≤ y
  | [], h => (h rfl).elim
  | [a], _ => by simp [minI]
  | a :: b :: r, _ => by
    obtain ⟨h1, h2⟩ := minI_spec (b :: r) (by simp)
    simp only [minI]
    split
    · rename_i hlt
      refine ⟨List.mem_cons_of_mem _ h1, fun y hy => ?_⟩
      rcases List.mem_cons.mp hy with rfl | hy
      · exact Int.le_of_lt hlt
      · exact h2 y hy
    · rename_i hlt
      refine ⟨List.mem_cons_self, fun y hy => ?_⟩
      rcases List.mem_cons.mp hy with rfl | hy
      · exact Int.le_refl _
      · exact Int.le_trans (by omega) (h2 y hy)
abbrev PR (K : KK) (ι : List Addr) (H : Hp) (ps : List (D × D)) (kvs : List (Key × V)) : Prop := Paired (fun (p : D × D) (kv : Key × V) => p.1 = keyD kv.1 ∧ Rep K ι H p.2 kv.2 ∧ homed p.2 = true) ps kvs
theorem PR.any {ps : List (D × D)} {kvs : List (Key × V)} (k : Key) (r : PR K ι H ps kvs) : (ps.any fun p => deq p.1 (keyD k)) = kvs.any fun kv => decide (kv.1 = k) := by
  induction r with
  | nil => rfl
  | cons h t ih => rw [List.any_cons, List.any_cons, ih, h.1, deq_key]
theorem PR.map {ps : List (D × D)} {kvs : List (Key × V)} {k : Key} {v : D} {w : V} (hv : Rep K ι H v w ∧ homed v = true) (r : PR K ι H ps kvs) : PR K ι H (ps.map fun p => if deq p.1 (keyD k) = true then (p.1, v) else p) (kvs.map fun kv => if kv.1 = k then (kv.1, w) else kv) := by
  induction r with
  | nil => exact .nil
  | cons h t ih =>
    rw [List.map_cons, List.map_cons]
    refine .cons ?_ ih
    rw [h.1, deq_key]
    rename_i p kv _ _
    by_cases e : kv.1 = k
    · rw [if_pos (by simpa using e), if_pos e]; exact ⟨rfl, hv⟩
    · rw [if_neg (by simpa using e), if_neg e]; exact h
theorem PR.snoc {ps : List (D × D)} {kvs : List (Key × V)} {p : D × D} {kv : Key × V} (h : p.1 = keyD kv.1 ∧ Rep K ι H p.2 kv.2 ∧ homed p.2 = true) (r : PR K ι H ps kvs) : PR K ι H (ps ++ [p]) (kvs ++ [kv]) := by
  induction r with
  | nil => exact .cons h .nil
  | cons g t ih => exact .cons g ih
theorem PR.put {ps : List (D × D)} {kvs : List (Key × V)} {k : Key} {v : D} {w : V} (hv : Rep K ι H v w ∧ homed v = true) (r : PR K ι H ps kvs) : PR K ι H (putP ps (keyD k) v) (putK kvs k w) := by
  unfold putP putK
  rw [r.any k]
  split
  · exact r.map hv
  · exact r.snoc ⟨rfl, hv⟩
theorem PR.merge {ps : List (D × D)} {kvs : List (Key × V)} (r : PR K ι H ps kvs) : ∀ {acc : List (D × D)} {kvs0 : List (Key × V)}, PR K ι H acc kvs0 → PR K ι H (ps.foldl (fun acc p => putP acc p.1 p.2) acc) (mergeK kvs0 kvs) := by
  induction r with
  | nil => intro acc kvs0 h; exact h
  | cons h t ih =>
    intro acc kvs0 r0
    rw [List.foldl_cons, h.1]
    exact ih (r0.put h.2)
theorem PR.fst {ps : List (D × D)} {kvs : List (Key × V)} (r : PR K ι H ps kvs) : ps.map (·.1) = kvs.map fun kv => keyD kv.1 := by
  induction r with
  | nil => rfl
  | cons h t ih => rw [List.map_cons, List.map_cons, ih, h.1]
theorem PR.snd {ps : List (D × D)} {kvs : List (Key × V)} (r : PR K ι H ps kvs) : Reps K ι H (ps.map (·.2)) (kvs.map (·.2)) := by
  induction r with
  | nil => exact Reps.nil
  | cons h t ih => rw [List.map_cons, List.map_cons]; exact Reps.cons h.2 ih
theorem pairs_rep : ∀ {xs : List D} {vs : List V}, pairsD xs = true → Reps K ι H xs vs → ∃ ps kvs, vs = ps.map V.ref ∧ Paired (fun p kv => SqT K.K H p [kV kv.1, kv.2]) ps kvs ∧ PR K ι H (pairP xs) kvs
  | [], vs, _, r => ⟨[], [], by simpa [Reps] using r, .nil, .nil⟩
  | x :: xs, vs, h, r => by
    unfold pairsD at h
    rw [List.all_cons, Bool.and_eq_true] at h
    simp only [Reps] at r
    obtain ⟨v, u, rfl, h1, h2⟩ := r
    obtain ⟨ps, kvs, e, hp, hr⟩ := pairs_rep (show pairsD xs = true from h.2) h2
    subst e
    have hx : ∃ k d, x = .tup [k, d] ∧ keyOk k = true := by
      have h3 := h.1
      unfold pairD at h3
      split at h3
      · exact ⟨_, _, rfl, rfl⟩
      · exact ⟨_, _, rfl, rfl⟩
      · cases h3
    obtain ⟨k, d, rfl, hk⟩ := hx
    have h1' := h1.1
    simp only [Rep, Reps] at h1'
    obtain ⟨a, ws, rfl, sa, u1, r1, rfl, g1, u2, r2, rfl, g2, rfl⟩ := h1'
    obtain ⟨key, ek⟩ := dKey_some hk
    have ev := kV_rep ek g1.1
    subst ev
    refine ⟨a :: ps, (key, u2) :: kvs, rfl, .cons sa.sqt hp, ?_⟩
    unfold pairP
    exact .cons ⟨(keyD_of ek).symm, g2⟩ hr
theorem post_dicK {kvs : List (Key × V)} {ks vs : List D} {Q : VK} {E : XK} (h : post K (RV K) ι H (.ok (.dic false ks vs) M) Q E) (m : RelM K ι H M) (e1 : ks = kvs.map fun kv => keyD kv.1) (e2 : Reps K ι H vs (kvs.map (·.2))) : ∀ p, H p = none → Q (.ref p) (upd H p (.dK kvs)) := fun p hp =>
  h ι _ _ (ext_new hp) (m.new hp) ⟨by simp only [Rep]; exact ⟨p, _, rfl, ⟨kvs, upd_same, e1, rfl⟩, m.notin hp, Reps.mono (ext_new hp) _ _ e2⟩, fun a e => by cases e; exact hp⟩
def okBI : BI → Bool
  | .lenset => false
  | .sortset => false
  | _ => true
theorem bi_rep (b : BI) (hb : okBI b = true) (m : RelM K ι H M) {ds : List D} {vs : List V} {Q : VK} {E : XK} (r : RepsA K ι H ds vs) (h : post K (RV K) ι H (bi b ds M) Q E) : rBi K.K b vs H Q := by
  have one : ∀ {x : D} {vs : List V}, RepsA K ι H [x] vs → ∃ v, vs = [v] ∧ Rep K ι H x v := by
    rintro x vs ⟨v, u, rfl, h1, h2⟩
    cases (show u = [] from h2)
    exact ⟨v, rfl, h1⟩
  unfold bi at h
  split at h
  · obtain ⟨v, rfl, rx⟩ := one r
    obtain ⟨hz, h⟩ := post_lim h
    simp only [Rep] at rx; subst rx
    exact .inl ⟨_, _, rfl, ⟨by simpa only [str_len] using hz, rfl⟩, by rw [str_len]; exact post_val h m (rep_int _) trivial⟩
  · obtain ⟨v, rfl, rx⟩ := one r
    split at h
    · rename_i t ks us ed
      obtain ⟨a, ws, rfl, h1, h2⟩ := dicOf_rep m ed rx
      cases t with
      | false =>
        obtain ⟨kvs, e, rfl, rfl⟩ := h1
        refine .inr ⟨a, rfl, .inl ⟨kvs, e, ?_⟩⟩
        have q := post_val h m (rep_int _) trivial
        simpa using q
      | true =>
        obtain ⟨kvs, e, rfl, rfl⟩ := h1
        refine .inr ⟨a, rfl, .inr ⟨kvs, e, ?_⟩⟩
        have q := post_val h m (rep_int _) trivial
        simpa using q
    · obtain ⟨xs, ex, h⟩ := post_ofO h
      obtain ⟨a, ws, rfl, h1, h2⟩ := items_rep m ex rx
      have q := post_val h m (rep_int _) trivial
      rw [h2.length] at q
      refine .inl ⟨_, ws.length, rfl, ?_, q⟩
      rcases h1 with h1 | ⟨_, h1⟩
      · exact .inl ⟨ws, h1, rfl⟩
      · exact .inr ⟨ws, h1, rfl⟩
  · obtain ⟨v, rfl, rx⟩ := one r
    obtain ⟨xs, ex, h⟩ := post_ofO h
    obtain ⟨bs, eb, h⟩ := post_ofO h
    obtain ⟨a, ws, rfl, h1, h2⟩ := items_rep m ex rx
    have e := blsOf_rep eb h2
    subst e
    have q := post_val h m (rep_bl _) trivial
    rcases h1 with h1 | ⟨_, h1⟩
    · exact .inl ⟨a, bs, rfl, h1, q⟩
    · exact .inr ⟨a, bs, rfl, h1, q⟩
  · obtain ⟨v, rfl, rx⟩ := one r
    obtain ⟨xs, ex, h⟩ := post_ofO h
    obtain ⟨bs, eb, h⟩ := post_ofO h
    obtain ⟨a, ws, rfl, h1, h2⟩ := items_rep m ex rx
    have e := blsOf_rep eb h2
    subst e
    have q := post_val h m (rep_bl _) trivial
    rcases h1 with h1 | ⟨_, h1⟩
    · exact .inl ⟨a, bs, rfl, h1, q⟩
    · exact .inr ⟨a, bs, rfl, h1, q⟩
  · obtain ⟨v, rfl, rx⟩ := one r
    obtain ⟨xs, ex, h⟩ := post_ofO h
    obtain ⟨bs, eb, h⟩ := post_ofO h
    obtain ⟨a, ws, rfl, h1, h2⟩ := lstItems_rep m ex rx
    have e := intsOf_rep eb h2
    subst e
    exact ⟨a, bs, rfl, h1, post_val h m (rep_int _) trivial⟩
  · obtain ⟨v, u, rfl, h1, w, u2, rfl, h2, rfl⟩ := r
    simp only [Rep] at h1 h2; subst h1 h2
    exact ⟨_, _, rfl, post_val h m (rep_int _) trivial⟩
  · obtain ⟨v, u, rfl, h1, w, u2, rfl, h2, rfl⟩ := r
    simp only [Rep] at h1 h2; subst h1 h2
    exact ⟨_, _, rfl, post_val h m (rep_int _) trivial⟩
  · obtain ⟨v, rfl, rx⟩ := one r
    obtain ⟨xs, ex, h⟩ := post_ofO h
    obtain ⟨bs, eb, h⟩ := post_ofO h
    obtain ⟨a, ws, rfl, h1, h2⟩ := lstItems_rep m ex rx
    have e := intsOf_rep eb h2
    subst e
    split at h
    · exact h.elim
    · rename_i hne
      refine ⟨a, bs, rfl, h1, List.length_pos_iff.mpr hne, fun k hk hle => ?_⟩
      obtain ⟨g1, g2⟩ := minI_spec bs hne
      have : k = minI bs := Int.le_antisymm (hle _ g1) (g2 _ hk)
      rw [this]
      exact post_val h m (rep_int _) trivial
  · obtain ⟨v, rfl, rx⟩ := one r
    simp only [Rep] at rx; subst rx
    exact .inl ⟨_, rfl, post_val h m (rep_int _) trivial⟩
  · obtain ⟨v, rfl, rx⟩ := one r
    simp only [Rep] at rx; subst rx
    exact .inr ⟨_, rfl, post_val h m (rep_int _) trivial⟩
  · obtain ⟨v, rfl, rx⟩ := one r
    have q := post_val h m rx trivial
    simp only [Rep] at rx
    obtain ⟨a, ws, rfl, h1, h2⟩ := rx
    exact ⟨a, ws, rfl, .inr ⟨h1.sqt, q⟩⟩
  · obtain ⟨v, rfl, rx⟩ := one r
    have q := post_val h m rx trivial
    simp only [Rep] at rx
    obtain ⟨a, ws, rfl, h1, h2⟩ := rx
    exact ⟨a, ws, rfl, .inr ⟨h1.sqt, q⟩⟩
  · rename_i x hn1 hn2
    obtain ⟨v, rfl, rx⟩ := one r
    obtain ⟨xs, ex, h⟩ := post_ofO h
    obtain ⟨a, ws, rfl, h1, h2⟩ := items_rep m ex rx
    rcases h1 with h1 | ⟨h1, _⟩
    · exact ⟨a, ws, rfl, .inl ⟨h1, _, post_tupB h m h2⟩⟩
    · cases x with
      | tup ys => exact (hn1 ys rfl).elim
      | ktp ys => exact (hn2 ys rfl).elim
      | _ => simp [isTup] at h1
  · obtain ⟨v, rfl, rx⟩ := one r
    obtain ⟨xs, ex, h⟩ := post_ofO h
    obtain ⟨a, ws, rfl, h1, h2⟩ := items_rep m ex rx
    refine ⟨a, ws, rfl, ?_, post_lst h m h2⟩
    rcases h1 with h1 | ⟨_, h1⟩
    · exact .inl h1
    · exact .inr h1
  · cases hb
  · cases hb
  · exact h.elim
  · rename_i x hn
    obtain ⟨v, rfl, rx⟩ := one r
    obtain ⟨xs, ex, h⟩ := post_ofO h
    obtain ⟨⟨hp, hl⟩, h⟩ := post_ite h
    have fin : ∀ {a : Addr} {ws : List V}, Reps K ι H xs ws → (SqL K.K H a ws ∨ ∃ o, H a = some (.frz o (.tup ws)) ∧ o.dict = none) → rBi K.K .dict [.ref a] H Q := by
      intro a ws h2 h1
      obtain ⟨ps, kvs, rfl, hps, hr⟩ := pairs_rep hp h2
      have hm := hr.merge (acc := []) (kvs0 := []) .nil
      have q := post_dicK h m hm.fst hm.snd
      rcases h1 with h1 | ⟨o, sa, ho⟩
      · exact .inl ⟨a, ps, kvs, rfl, h1, hps, q⟩
      · exact .inr ⟨a, o, ps, kvs, rfl, sa, ho, hps, q⟩
    by_cases ht : isTup x = true
    · cases x with
      | tup ys =>
        cases ex
        simp only [Rep] at rx
        obtain ⟨a, ws, rfl, sa, rr⟩ := rx
        refine fin rr ?_
        rcases sa with ⟨sa, _⟩ | ⟨_, o, sa, ho⟩
        · rw [hp] at sa; cases sa
        · exact .inr ⟨o, sa, ho⟩
      | ktp ys => exact (hn ys rfl).elim
      | _ => simp [isTup] at ht
    · obtain ⟨a, ws, rfl, h1, h2⟩ := items_rep m ex rx
      refine fin h2 ?_
      rcases h1 with h1 | ⟨h1, _⟩
      · exact .inl h1
      · exact (ht h1).elim
  · exact h.elim
end
end MI

set_option Elab.async false
set_option linter.all false
set_option maxRecDepth 100000
/-! MIi: methods, stores, isinstance by values. -/
namespace MI
open PySem PySem.Spec PyProof.Rows L2
section
variable {K : KK} {ι : List Addr} {H : Hp} {M : Sto}
theorem mem_of_get {α : Type} {l : List α} {i : Nat} {a : α} (h : l[i]? = some a) : a ∈ l := List.mem_of_getElem? h
/-- it may be written -/
structure Wr (H : Hp) (a : Addr) : Prop where
  tup : ∀ xs, H a ≠ some (.tup xs)
  frz : ∀ ob u, H a ≠ some (.frz ob u)
theorem wr_lst {a : Addr} {vs : List V} (h : H a = some (.lst vs)) : Wr H a := ⟨fun _ q => (by rw [h] at q; cases q), fun _ _ q => (by rw [h] at q; cases q)⟩
theorem ext_upd {h : Nat} {a : Addr} {o : HO} (ea : ι[h]? = some a) (mu : Wr H a) : Ext ι H ι (L2.upd H a o) := by
  have hin : a ∈ ι := mem_of_get ea
  refine ⟨⟨[], by simp, by simp⟩, fun b u n q => ?_, fun b q => ?_, fun b u w q => ?_, fun b xs q => ?_⟩
  · rw [upd_ne (fun e => n (by rw [e]; exact hin))]; exact q
  · by_cases e : b = a
    · subst e; rw [upd_same]; simp
    · rw [upd_ne e]; exact q
  · by_cases e : b = a
    · subst e; exact (mu.frz _ _ q).elim
    · rw [upd_ne e]; exact q
  · by_cases e : b = a
    · subst e; exact (mu.tup _ q).elim
    · rw [upd_ne e]; exact q
/-- a named thing is changed -/
theorem RelM.upd (m : RelM K ι H M) {h : Nat} {a : Addr} {o : HO} {ob : MO} (ea : ι[h]? = some a) (mu : Wr H a) (new : RepO K ι (L2.upd H a o) ob a) : RelM K ι (L2.upd H a o) (M.set h ob) := by
  have hin : a ∈ ι := mem_of_get ea
  have x := ext_upd (H := H) (o := o) ea mu
  have hlt : h < ι.length := (List.getElem?_eq_some_iff.mp ea).1
  refine ⟨by rw [List.length_set]; exact m.len, m.nd, fun i ob' e => ?_⟩
  by_cases hi : h = i
  · subst hi
    rw [List.getElem?_set_self (by rw [← m.len]; exact hlt)] at e
    cases e
    exact ⟨a, ea, new⟩
  · rw [List.getElem?_set_ne hi] at e
    obtain ⟨b, eb, r⟩ := m.obj i ob' e
    have hne : b ≠ a := fun q => by
      subst q
      exact hi ((List.getElem?_inj hlt m.nd).mp (ea.trans eb.symm))
    exact ⟨b, eb, RepO.mono x (fun u q => by rw [upd_ne hne]; exact q) r⟩
/-- the list at h is now ys -/
theorem set_lst (m : RelM K ι H M) {h : Nat} {a : Addr} {vs ws : List V} {ys : List D} (ea : ι[h]? = some a) (ha : H a = some (.lst vs)) (r : Reps K ι H ys ws) :
    Ext ι H ι (upd H a (.lst ws)) ∧ RelM K ι (upd H a (.lst ws)) (M.set h (.lst ys)) :=
  ⟨ext_upd ea (wr_lst ha), m.upd ea (wr_lst ha) ⟨ws, upd_same, Reps.mono (ext_upd ea (wr_lst ha)) _ _ r⟩⟩
end
def MT.nm : MT → String
  | .lst => "list"
  | .str => "str"
  | .dic => "dict"
def BM.nm : BM → Str
  | .append => "append"
  | .pop => "pop"
  | .popAt => "pop"
  | .extend => "extend"
  | .insert => "insert"
  | .count => "count"
  | .reverse => "reverse"
  | .clear => "clear"
  | .join => "join"
  | .split => "split"
  | .partition => "partition"
  | .replace => "replace"
  | .upper => "upper"
  | .get => "get"
  | .get2 => "get"
  | .values => "values"
  | .update => "update"
  | .index => "index"
def BM.id : BM → String
  | .append => "list.append"
  | .count => "list.count"
  | .get => "dict.get"
  | _ => "list.append"
def rMe (K : PySem.W.Frag) (m : BM) : V → List V → Hp → VK → Prop := match m with
  | .append => rAppend
  | .count => rCnt K
  | .get => fun x xs H Q => ∃ a y o, x = .ref a ∧ xs = [y] ∧ DGet H a y o ∧ Q (o.getD .non) H
  | _ => fun _ _ _ _ => False
theorem mtr_me {X : Cx} (hu : X.A.units + 1 < cLine) (hc : X.calm = true) (m : BM) : MtR X m.id (rMe X.K m) := by
  cases m with
  | append => exact mt_append
  | count => exact mt_cnt
  | get => exact mt_dget hu
  | _ => intro pins s σ H x xs v us Q I rx rxs h; exact h.elim
section
variable {K : KK} {ι : List Addr} {H : Hp} {M : Sto}
theorem isMT_rep (m : RelM K ι H M) {t : MT} {x : D} {v : V} (e : isMT t x M = true) (r : Rep K ι H x v) : tyV K.K t.nm v H := by
  cases t with
  | lst =>
    obtain ⟨xs, ex⟩ := Option.isSome_iff_exists.mp (show (lstItems M x).isSome = true from e)
    obtain ⟨a, vs, rfl, h1, _⟩ := lstItems_rep m ex r
    exact .inl ⟨rfl, vs, h1⟩
  | str =>
    cases x <;> simp [isMT] at e
    simp only [Rep] at r; subst r
    exact (rfl : "str" = "str")
  | dic =>
    obtain ⟨⟨t, ks, vs⟩, ex⟩ := Option.isSome_iff_exists.mp (show (dicOf M x).isSome = true from e)
    obtain ⟨a, us, rfl, h1, _⟩ := dicOf_rep m ex r
    cases t with
    | false => obtain ⟨kvs, q, _⟩ := h1; exact .inr (.inr (.inl ⟨rfl, .inl ⟨kvs, q⟩⟩))
    | true => obtain ⟨kvs, q, _⟩ := h1; exact .inr (.inr (.inl ⟨rfl, .inr ⟨kvs, q⟩⟩))
theorem one_reps {x : D} {vs : List V} (r : Reps K ι H [x] vs) : ∃ v, vs = [v] ∧ Rep K ι H x v ∧ homed x = true := by
  simp only [Reps] at r
  obtain ⟨v, u, rfl, h1, h2⟩ := r
  subst h2
  exact ⟨v, rfl, h1⟩
theorem me_rep (b : BM) (m : RelM K ι H M) {x : D} {vx : V} {ds : List D} {vs : List V} {Q : VK} {E : XK} (rx : Rep K ι H x vx) (r : Reps K ι H ds vs) (h : post K (RV K) ι H (meth b x ds M) Q E) : rMe K.K b vx vs H Q := by
  unfold meth at h
  split at h
  · rename_i hh d
    obtain ⟨v, rfl, rd⟩ := one_reps r
    split at h
    · rename_i xs e
      obtain ⟨hz, h⟩ := post_ite h
      obtain ⟨a, us, rfl, _, ea, ha, ru⟩ := m.atL e rx
      obtain ⟨x1, m1⟩ := set_lst m ea ha (ru.append (Reps.cons rd Reps.nil))
      exact ⟨a, us, v, rfl, rfl, ha, by rw [← ru.length]; exact hz, h _ _ _ x1 m1 ⟨rep_non, trivial⟩⟩
    · exact h.elim
  · rename_i d
    obtain ⟨v, rfl, rd⟩ := one_reps r
    obtain ⟨⟨t, ks, us⟩, ex, h⟩ := post_ofO h
    obtain ⟨hk, h⟩ := post_ite h
    obtain ⟨a, ws, rfl, h1, h2⟩ := dicOf_rep m ex rx
    obtain ⟨o, g, hg⟩ := dget_rep h1 h2 hk rd.1
    refine ⟨a, v, o, rfl, rfl, g, ?_⟩
    rcases hg with ⟨e1, rfl⟩ | ⟨d', w, e1, rfl, e2, e3⟩
    · rw [e1] at h
      exact post_val h m rep_non trivial
    · rw [e1] at h
      exact post_val h m e2 (fresh_homed e3)
  · rename_i d
    obtain ⟨v, rfl, rd⟩ := one_reps r
    obtain ⟨xs, ex, h⟩ := post_ofO h
    obtain ⟨⟨f1, f2⟩, h⟩ := post_ite h
    obtain ⟨a, us, rfl, h1, h2⟩ := lstItems_rep m ex rx
    have e := reps_flat f2 h2
    subst e
    have q := post_val h m (rep_int _) trivial
    refine ⟨a, _, v, rfl, rfl, h1, by rw [rep_flat f1 rd.1]; exact flatV_fv _, allV_fv _, ?_⟩
    have ec : ∀ l : List D, l.all flat = true → ((l.map fv).countP fun z => eqV z v) = l.countP fun z => deq z d := by
      intro l
      induction l with
      | nil => intro _; rfl
      | cons a l ih =>
        intro hl
        rw [List.all_cons, Bool.and_eq_true] at hl
        rw [List.map_cons, List.countP_cons, List.countP_cons, ih hl.2, rep_flat f1 rd.1, eqV_fv hl.1 f1]
    rw [ec xs f2]
    exact q
  · exact h.elim
theorem setix_rep (m : RelM K ι H M) {o i d : D} {vo vi v : V} {M' : Sto} (ro : Rep K ι H o vo) (ri : Rep K ι H i vi) (rd : Rep K ι H d v ∧ homed d = true) (e : setix o i d M = some M') :
    ∃ H', rSetL vo vi v H (fun H2 => H2 = H') ∧ Ext ι H ι H' ∧ RelM K ι H' M' := by
  unfold setix at e
  split at e
  · rename_i hh k
    split at e
    · rename_i xs q
      obtain ⟨j, ej, rfl⟩ := Option.map_eq_some_iff.mp e
      obtain ⟨a, us, rfl, _, ea, ha, ru⟩ := m.atL q ro
      simp only [Rep] at ri; subst ri
      obtain ⟨x1, m1⟩ := set_lst m ea ha (ru.set j rd)
      exact ⟨_, ⟨a, us, k, j, rfl, rfl, ha, by rw [← ru.length]; exact ej, rfl⟩, x1, m1⟩
    · cases e
  · cases e
/-! ### isinstance -/
def Ty.ty : Ty → String
  | .tint => "int"
  | .tbool => "bool"
  | .tstr => "str"
  | .ttuple => "tuple"
  | .tlist => "list"
  | .tdict => "dict"
theorem isTy_rep (m : RelM K ι H M) {t : Ty} {x : D} {v : V} {b : Bool} (e : isTy M t x = some b) (r : Rep K ι H x v) : ∃ u, TyX K.K H v u ∧ PySem.W.kitOne K.K u (.type t.ty) = some b := by
  have go : ∀ (n : String), kitB n t.ty = some b → TyX K.K H v (.type n) → ∃ u, TyX K.K H v u ∧ PySem.W.kitOne K.K u (.type t.ty) = some b := fun n h1 h2 => ⟨_, h2, kit_ty h1⟩
  cases x with
  | non => simp only [Rep] at r; subst r; exact go "NoneType" (by cases t <;> cases e <;> decide +kernel) (.base .non)
  | bl k => simp only [Rep] at r; subst r; exact go "bool" (by cases t <;> cases e <;> decide +kernel) (.base (.bl k))
  | int k => simp only [Rep] at r; subst r; exact go "int" (by cases t <;> cases e <;> decide +kernel) (.base (.int k))
  | str k => simp only [Rep] at r; subst r; exact go "str" (by cases t <;> cases e <;> decide +kernel) (.base (.str _))
  | tup k =>
    simp only [Rep] at r
    obtain ⟨a, vs, rfl, h1, _⟩ := r
    refine go "tuple" (by cases t <;> cases e <;> decide +kernel) ?_
    rcases h1 with ⟨_, h1⟩ | ⟨_, o, h1, _⟩
    · exact .base (.tup h1)
    · exact .fTuple h1
  | lst k =>
    simp only [Rep] at r
    obtain ⟨a, vs, rfl, h1, _⟩ := r
    exact go "list" (by cases t <;> cases e <;> decide +kernel) (.base (.lst h1))
  | frl k =>
    simp only [Rep] at r
    obtain ⟨a, vs, rfl, h1, _⟩ := r
    refine go "list" (by cases t <;> cases e <;> decide +kernel) ?_
    rcases h1 with ⟨o, h1⟩ | ⟨o, its, n, h1, h2, _⟩
    · exact .base (.frz h1)
    · exact .kList h1 h2
  | ref h =>
    simp only [isTy] at e
    split at e
    · rename_i xs q
      obtain ⟨a, vs, rfl, _, _, h1, _⟩ := m.atL q r
      exact go "list" (by cases e; decide +kernel) (.base (.lst h1))
    · rename_i t1 t2 o xs hn q
      obtain ⟨a, vs, rfl, _, _, h1, _⟩ := m.atL q r
      refine go "list" (by cases t1 <;> first | (exact (hn rfl).elim) | (cases e; decide +kernel)) (.base (.lst h1))
    · cases e
  | dic t' ks vs => cases t <;> cases e
  | ktp xs => cases t <;> cases e
end
end MI

set_option Elab.async false
set_option linter.all false
set_option maxRecDepth 100000
/-! MIj: expressions' readings. -/
namespace MI
open PySem PySem.Spec PyProof.Rows L2
/-- what stays of what is named or in tuples -/
structure Ext0 (ι : List Addr) (H : Hp) (ι' : List Addr) (H' : Hp) : Prop where
  grow : ∃ n, ι' = ι ++ n
  frz : ∀ a o u, H a = some (.frz o u) → H' a = some (.frz o u)
  tup : ∀ a xs, H a = some (.tup xs) → H' a = some (.tup xs)
theorem Ext.ext0 {ι ι' : List Addr} {H H' : Hp} (x : Ext ι H ι' H') : Ext0 ι H ι' H' := ⟨let ⟨n, e, _⟩ := x.grow; ⟨n, e⟩, x.frz, x.tup⟩
section
variable {K : KK} {ι ι' : List Addr} {H H' : Hp} {M : Sto}
mutual
theorem Rep.mono0 (x : Ext0 ι H ι' H') : ∀ (d : D) (v : V), homed d = true → Rep K ι H d v → Rep K ι' H' d v
  | .non, _, _, h => h
  | .bl _, _, _, h => h
  | .int _, _, _, h => h
  | .str _, _, _, h => h
  | .tup xs, v, _, h => by
    simp only [Rep] at h ⊢
    obtain ⟨a, vs, e, s, r⟩ := h
    exact ⟨a, vs, e, s.keep x.tup x.frz, Reps.mono0 x xs vs r⟩
  | .ref h, v, _, q => by
    simp only [Rep] at q ⊢
    obtain ⟨a, e, z⟩ := q
    obtain ⟨n, en⟩ := x.grow
    exact ⟨a, by rw [en, List.getElem?_append_left (List.getElem?_eq_some_iff.mp e).1]; exact e, z⟩
  | .lst xs, v, hh, _ => by simp [homed] at hh
  | .dic t ks vs, v, hh, _ => by simp [homed] at hh
  | .frl xs, v, _, h => by
    simp only [Rep] at h ⊢
    obtain ⟨a, vs, e, s, r⟩ := h
    refine ⟨a, vs, e, ?_, Reps.mono0 x xs vs r⟩
    rcases s with ⟨o, s⟩ | s
    · exact .inl ⟨o, x.frz _ _ _ s⟩
    · exact .inr s
  | .ktp xs, v, _, h => by
    simp only [Rep] at h ⊢
    obtain ⟨a, vs, e, s, r⟩ := h
    exact ⟨a, vs, e, s, Reps.mono0 x xs vs r⟩
theorem Reps.mono0 (x : Ext0 ι H ι' H') : ∀ (ds : List D) (vs : List V), Reps K ι H ds vs → Reps K ι' H' ds vs
  | [], _, h => by simpa only [Reps] using h
  | d :: ds, vs, h => by
    simp only [Reps] at h ⊢
    obtain ⟨v, r, e, h1, h2⟩ := h
    exact ⟨v, r, e, ⟨Rep.mono0 x d v h1.2 h1.1, h1.2⟩, Reps.mono0 x ds r h2⟩
end
theorem RepO.mono0 (x : Ext0 ι H ι' H') {o : MO} {a : Addr} (k : ∀ u, H a = some u → H' a = some u) (h : RepO K ι H o a) : RepO K ι' H' o a := by
  cases o with
  | lst xs => obtain ⟨vs, h1, h2⟩ := h; exact ⟨vs, k _ h1, Reps.mono0 x _ _ h2⟩
  | dic t ks vs => obtain ⟨us, h1, h2⟩ := h; exact ⟨us, h1.keep k, Reps.mono0 x _ _ h2⟩
  | ins c fs => exact h
theorem RelS.mono0 (x : Ext0 ι H ι' H') {σ : Env} {σV : L2.St} (h : RelS K ι H σ σV) : RelS K ι' H' σ σV :=
  ⟨h.1, fun i d e => let ⟨z, v, q, r⟩ := h.2 i d e; ⟨z, v, q, Rep.mono0 x d v z r⟩⟩
/-- a thing that no name holds is changed -/
theorem ext0_other {D : Addr} {o : HO} (h1 : ∀ xs, H D ≠ some (.tup xs)) (h2 : ∀ ob u, H D ≠ some (.frz ob u)) : Ext0 ι H ι (upd H D o) :=
  ⟨⟨[], by simp⟩, fun a ob u q => by rw [upd_ne (fun e => h2 ob u (by rw [← e]; exact q))]; exact q, fun a xs q => by rw [upd_ne (fun e => h1 xs (by rw [← e]; exact q))]; exact q⟩
theorem RelM.other (m : RelM K ι H M) {D : Addr} {o : HO} (hn : D ∉ ι) (x : Ext0 ι H ι (L2.upd H D o)) : RelM K ι (L2.upd H D o) M :=
  ⟨m.len, m.nd, fun i ob e => let ⟨a, ea, r⟩ := m.obj i ob e; ⟨a, ea, RepO.mono0 x (fun u q => by rw [upd_ne (fun z => hn (by rw [← z]; exact mem_of_get ea))]; exact q) r⟩⟩
/-- a thing just made gets a name -/
theorem home_rep (m : RelM K ι H M) {d : D} {v : V} (r : Rep K ι H d v) (f : ∀ (H0 : Hp), fresh H0 d v → True) :
    ∃ d' M' ι', home d M = .ok d' M' ∧ homed d' = true ∧ Rep K ι' H d' v ∧ RelM K ι' H M' ∧ (∃ n, ι' = ι ++ n ∧ ∀ a ∈ n, v = .ref a ∧ homed d = false) := by
  cases d with
  | lst xs =>
    simp only [Rep] at r
    obtain ⟨a, vs, rfl, h1, h2, h3⟩ := r
    have x0 : Ext0 ι H (ι ++ [a]) H := ⟨⟨[a], rfl⟩, fun _ _ _ q => q, fun _ _ q => q⟩
    refine ⟨.ref M.length, M ++ [.lst xs], ι ++ [a], rfl, rfl, ?_, ⟨by simp [m.len], ?_, fun i o e => ?_⟩, [a], rfl, fun b hb => ?_⟩
    · simp only [Rep]
      exact ⟨a, by rw [← m.len]; simp, rfl⟩
    · exact List.nodup_append.mpr ⟨m.nd, by simp, fun b hb c hc e => by simp at hc; subst hc; subst e; exact h2 hb⟩
    · by_cases hi : i < M.length
      · rw [List.getElem?_append_left hi] at e
        obtain ⟨b, eb, rb⟩ := m.obj i o e
        exact ⟨b, by rw [List.getElem?_append_left (by rw [m.len]; exact hi)]; exact eb, RepO.mono0 x0 (fun _ q => q) rb⟩
      · have hi2 : i = M.length := by
          have := (List.getElem?_eq_some_iff.mp e).1
          simp at this; omega
        subst hi2
        simp at e; subst e
        exact ⟨a, by rw [← m.len]; simp, vs, h1, Reps.mono0 x0 _ _ h3⟩
    · simp at hb; subst hb; exact ⟨rfl, rfl⟩
  | dic t ks xs =>
    simp only [Rep] at r
    obtain ⟨a, vs, rfl, h1, h2, h3⟩ := r
    have x0 : Ext0 ι H (ι ++ [a]) H := ⟨⟨[a], rfl⟩, fun _ _ _ q => q, fun _ _ q => q⟩
    refine ⟨.ref M.length, M ++ [.dic t ks xs], ι ++ [a], rfl, rfl, ?_, ⟨by simp [m.len], ?_, fun i o e => ?_⟩, [a], rfl, fun b hb => ?_⟩
    · simp only [Rep]
      exact ⟨a, by rw [← m.len]; simp, rfl⟩
    · exact List.nodup_append.mpr ⟨m.nd, by simp, fun b hb c hc e => by simp at hc; subst hc; subst e; exact h2 hb⟩
    · by_cases hi : i < M.length
      · rw [List.getElem?_append_left hi] at e
        obtain ⟨b, eb, rb⟩ := m.obj i o e
        exact ⟨b, by rw [List.getElem?_append_left (by rw [m.len]; exact hi)]; exact eb, RepO.mono0 x0 (fun _ q => q) rb⟩
      · have hi2 : i = M.length := by
          have := (List.getElem?_eq_some_iff.mp e).1
          simp at this; omega
        subst hi2
        simp at e; subst e
        exact ⟨a, by rw [← m.len]; simp, vs, h1, Reps.mono0 x0 _ _ h3⟩
    · simp at hb; subst hb; exact ⟨rfl, rfl⟩
  | _ => exact ⟨_, M, ι, rfl, rfl, r, m, [], by simp, by simp⟩
/-- .. told of an earlier heap, in which it stood not -/
theorem home_ext {ι0 : List Addr} {H0 : Hp} (x : Ext ι0 H0 ι H) {d : D} {v : V} (f : fresh H0 d v) {n : List Addr} (hn : ∀ a ∈ n, v = .ref a ∧ homed d = false) : Ext ι0 H0 (ι ++ n) H := by
  obtain ⟨k, e, hk⟩ := x.grow
  refine ⟨⟨k ++ n, by rw [e, List.append_assoc], fun a ha => ?_⟩, x.keep, x.there, x.frz, x.tup⟩
  rcases List.mem_append.mp ha with h | h
  · exact hk a h
  · obtain ⟨e1, e2⟩ := hn a h
    cases d <;> first | (simp [homed] at e2; done) | exact f a e1
/-- values that are named now -/
def RH (K : KK) : RR D V := fun _ ι' H' d v => Rep K ι' H' d v ∧ homed d = true
theorem mono_RH : Mono (RH K) := fun _ _ _ _ _ _ _ _ _ h => h
theorem post_home {r : Res D} {Q : VK} {E : XK} (h : post K (RH K) ι H (r.bind home) Q E) : post K (RV K) ι H r Q E := by
  cases r with
  | ok d M1 =>
    intro ι1 H1 v x m q
    obtain ⟨d', M', ι2, e, hh, r', m', n, en, hn⟩ := home_rep m q.1 (fun _ _ => trivial)
    subst en
    simp only [bind_ok, e] at h
    exact h _ _ v (home_ext x q.2 hn) m' ⟨r', hh⟩
  | exc y M1 => exact h
  | stuck => exact h
end
end MI

set_option Elab.async false
set_option linter.all false
set_option maxRecDepth 100000
/-! MIk: expressions' readings, further: operators, arguments, what is walked, comprehensions. -/
namespace MI
open PySem PySem.Spec PyProof.Rows L2
theorem bind_assoc {α β γ : Type} (r : Res α) (f : α → Sto → Res β) (g : β → Sto → Res γ) : (r.bind f).bind g = r.bind fun a M => (f a M).bind g := by
  cases r <;> rfl
def tAH (K : KK) (W : WX) (ev : Env → Sto → Res (List D)) : TA := fun σV H Q => ∃ ι σ M, RelS K ι H σ σV ∧ RelM K ι H M ∧ post K (RL K) ι H (ev σ M) Q (fun cl d H' => W cl d σV H')
def tAA (K : KK) (W : WX) (ev : Env → Sto → Res (List D)) : TA := fun σV H Q => ∃ ι σ M, RelS K ι H σ σV ∧ RelM K ι H M ∧ post K (RLA K) ι H (ev σ M) Q (fun cl d H' => W cl d σV H')
section
variable {K : KK} {W : WX}
theorem imp_op2 {r : R2} {g : D → D → Sto → Res D} (hg : OpS K r g) {ea eb : Env → Sto → Res D} (σV : L2.St) (H : Hp) (Q : VK)
    (h : tE K W (fun σ M => (ea σ M).bind fun x M1 => (eb σ M1).bind fun y M2 => g x y M2) σV H Q) : tOp r (tE K W ea) (tE K W eb) σV H Q := by
  obtain ⟨ι, σ, M, hs, m, h⟩ := h
  refine ⟨ι, σ, M, hs, m, post_mono (post_bind mono_RV h) fun x H1 h1 => ?_⟩
  obtain ⟨ι1, a, M1, x1, m1, r1, h1⟩ := h1
  refine ⟨ι1, σ, M1, hs.mono x1, m1, post_mono (post_bind mono_RV h1) fun y H2 h2 => ?_⟩
  obtain ⟨ι2, b, M2, x2, m2, r2, h2⟩ := h2
  exact hg ι2 H2 M2 a b x y Q _ m2 (Rep.mono x2 _ _ r1.1) r2.1 h2
theorem imp_op1 {r : V → Hp → VK → Prop} {g : D → Sto → Res D} (hg : ∀ ι H M x vx Q E, RelM K ι H M → Rep K ι H x vx → post K (RV K) ι H (g x M) Q E → r vx H Q) {ea : Env → Sto → Res D} (σV : L2.St) (H : Hp) (Q : VK)
    (h : tE K W (fun σ M => (ea σ M).bind g) σV H Q) : tE K W ea σV H (fun v H1 => r v H1 Q) := by
  obtain ⟨ι, σ, M, hs, m, h⟩ := h
  refine ⟨ι, σ, M, hs, m, post_mono (post_bind mono_RV h) fun x H1 h1 => ?_⟩
  obtain ⟨ι1, a, M1, x1, m1, r1, h1⟩ := h1
  exact hg ι1 H1 M1 a x Q _ m1 r1.1 h1
/-- a chain -/
theorem imp_chain {r r' : R2} {g g' : D → D → Sto → Res D} (hg : OpS K r g) (hg' : OpS K r' g') {ea eb ec : Env → Sto → Res D} (σV : L2.St) (H : Hp) (Q : VK)
    (h : tE K W (fun σ M => (ea σ M).bind fun x M1 => (eb σ M1).bind fun y M2 => (g x y M2).bind fun k M3 => onB k ((ec σ M3).bind fun z M4 => g' y z M4) (.ok (.bl false) M3)) σV H Q) : tChain r r' (tE K W ea) (tE K W eb) (tE K W ec) σV H Q := by
  obtain ⟨ι, σ, M, hs, m, h⟩ := h
  refine ⟨ι, σ, M, hs, m, post_mono (post_bind mono_RV h) fun x H1 h1 => ?_⟩
  obtain ⟨ι1, a, M1, x1, m1, r1, h1⟩ := h1
  refine ⟨ι1, σ, M1, hs.mono x1, m1, post_mono (post_bind mono_RV h1) fun y H2 h2 => ?_⟩
  obtain ⟨ι2, b, M2, x2, m2, r2, h2⟩ := h2
  refine hg ι2 H2 M2 a b x y _ _ m2 (Rep.mono x2 _ _ r1.1) r2.1 (post_mono (post_bind mono_RV h2) fun z H3 h3 => ?_)
  obtain ⟨ι3, k, M3, x3, m3, r3, h3⟩ := h3
  cases k with
  | bl k =>
    have r3' := r3.1
    simp only [Rep] at r3'
    subst r3'
    refine ⟨k, rfl, ?_⟩
    cases k with
    | true =>
      rw [if_pos rfl]
      refine ⟨ι3, σ, M3, (hs.mono x1).mono (x2.trans x3), m3, post_mono (post_bind mono_RV h3) fun u H4 h4 => ?_⟩
      obtain ⟨ι4, c, M4, x4, m4, r4, h4⟩ := h4
      exact hg' ι4 H4 M4 b c y u Q _ m4 (Rep.mono x4 _ _ (Rep.mono x3 _ _ r2.1)) r4.1 h4
    | false =>
      rw [if_neg Bool.false_ne_true]
      exact post_val h3 m3 (rep_bl false) trivial
  | _ => exact h3.elim
theorem imp_and {ea eb : Env → Sto → Res D} (σV : L2.St) (H : Hp) (Q : VK)
    (h : tE K W (fun σ M => (ea σ M).bind fun x M1 => onB x (eb σ M1) (.ok (.bl false) M1)) σV H Q) : tAndV (tE K W ea) (tE K W eb) σV H Q := by
  obtain ⟨ι, σ, M, hs, m, h⟩ := h
  refine ⟨ι, σ, M, hs, m, post_mono (post_bind mono_RV h) fun x H1 h1 => ?_⟩
  obtain ⟨ι1, a, M1, x1, m1, r1, h1⟩ := h1
  cases a with
  | bl k =>
    have r1' := r1.1
    simp only [Rep] at r1'
    subst r1'
    refine ⟨k, rfl, ?_⟩
    cases k with
    | true => rw [if_pos rfl]; exact ⟨ι1, σ, M1, hs.mono x1, m1, h1⟩
    | false => rw [if_neg Bool.false_ne_true]; exact post_val h1 m1 (rep_bl false) trivial
  | _ => exact h1.elim
theorem imp_or {ea eb : Env → Sto → Res D} (σV : L2.St) (H : Hp) (Q : VK)
    (h : tE K W (fun σ M => (ea σ M).bind fun x M1 => onB x (.ok (.bl true) M1) (eb σ M1)) σV H Q) : tOrV (tE K W ea) (tE K W eb) σV H Q := by
  obtain ⟨ι, σ, M, hs, m, h⟩ := h
  refine ⟨ι, σ, M, hs, m, post_mono (post_bind mono_RV h) fun x H1 h1 => ?_⟩
  obtain ⟨ι1, a, M1, x1, m1, r1, h1⟩ := h1
  cases a with
  | bl k =>
    have r1' := r1.1
    simp only [Rep] at r1'
    subst r1'
    refine ⟨k, rfl, ?_⟩
    cases k with
    | true => rw [if_pos rfl]; exact post_val h1 m1 (rep_bl true) trivial
    | false => rw [if_neg Bool.false_ne_true]; exact ⟨ι1, σ, M1, hs.mono x1, m1, h1⟩
  | _ => exact h1.elim
theorem imp_not {ea : Env → Sto → Res D} (σV : L2.St) (H : Hp) (Q : VK)
    (h : tE K W (fun σ M => (ea σ M).bind fun x M1 => onB x (.ok (.bl false) M1) (.ok (.bl true) M1)) σV H Q) : tNotV (tE K W ea) σV H Q := by
  obtain ⟨ι, σ, M, hs, m, h⟩ := h
  refine ⟨ι, σ, M, hs, m, post_mono (post_bind mono_RV h) fun x H1 h1 => ?_⟩
  obtain ⟨ι1, a, M1, x1, m1, r1, h1⟩ := h1
  cases a with
  | bl k =>
    have r1' := r1.1
    simp only [Rep] at r1'
    subst r1'
    refine ⟨k, rfl, ?_⟩
    cases k <;> exact post_val h1 m1 (rep_bl _) trivial
  | _ => exact h1.elim
/-! tests -/
theorem toB_bind (r : Res D) (f : D → Sto → Res D) : (r.bind f).toB = r.bind fun a M => (f a M).toB := by cases r <;> rfl
theorem imp_tB {ea : Env → Sto → Res D} (σV : L2.St) (H : Hp) (Q : Bool → Hp → Prop) (h : tT K W ea σV H Q) : tE K W ea σV H fun x H1 => ∃ c, x = .bl c ∧ Q c H1 := by
  obtain ⟨ι, σ, M, hs, m, h⟩ := h
  refine ⟨ι, σ, M, hs, m, ?_⟩
  cases e : ea σ M with
  | ok d M1 =>
    rw [e] at h
    intro ι1 H1 v x1 m1 r1
    cases d with
    | bl k =>
      have r1' := r1.1
      simp only [Rep] at r1'
      subst r1'
      exact ⟨k, rfl, h ι1 H1 k x1 m1 rfl⟩
    | _ => exact h.elim
  | exc y M1 => rw [e] at h; exact h
  | stuck => rw [e] at h; exact h
theorem imp_tand {ea eb : Env → Sto → Res D} (σV : L2.St) (H : Hp) (Q : Bool → Hp → Prop)
    (h : tT K W (fun σ M => (ea σ M).bind fun x M1 => onB x (eb σ M1) (.ok (.bl false) M1)) σV H Q) : tAnd (tT K W ea) (tT K W eb) σV H Q := by
  obtain ⟨ι, σ, M, hs, m, h⟩ := h
  refine ⟨ι, σ, M, hs, m, ?_⟩
  simp only [toB_bind] at h
  cases e : ea σ M with
  | ok d M1 =>
    simp only [e, bind_ok] at h
    cases d with
    | bl k =>
      intro ι1 H1 b x1 m1 r1
      cases (show k = b from r1)
      cases k with
      | true => rw [if_pos rfl]; exact ⟨ι1, σ, M1, hs.mono x1, m1, post_shift mono_RB x1 h⟩
      | false => rw [if_neg Bool.false_ne_true]; exact h ι1 H1 false x1 m1 rfl
    | _ => exact h.elim
  | exc y M1 => simp only [e, bind_exc] at h; exact h
  | stuck => simp only [e, bind_stuck] at h; exact h
theorem imp_tor {ea eb : Env → Sto → Res D} (σV : L2.St) (H : Hp) (Q : Bool → Hp → Prop)
    (h : tT K W (fun σ M => (ea σ M).bind fun x M1 => onB x (.ok (.bl true) M1) (eb σ M1)) σV H Q) : tOr (tT K W ea) (tT K W eb) σV H Q := by
  obtain ⟨ι, σ, M, hs, m, h⟩ := h
  refine ⟨ι, σ, M, hs, m, ?_⟩
  simp only [toB_bind] at h
  cases e : ea σ M with
  | ok d M1 =>
    simp only [e, bind_ok] at h
    cases d with
    | bl k =>
      intro ι1 H1 b x1 m1 r1
      cases (show k = b from r1)
      cases k with
      | true => rw [if_pos rfl]; exact h ι1 H1 true x1 m1 rfl
      | false => rw [if_neg Bool.false_ne_true]; exact ⟨ι1, σ, M1, hs.mono x1, m1, post_shift mono_RB x1 h⟩
    | _ => exact h.elim
  | exc y M1 => simp only [e, bind_exc] at h; exact h
  | stuck => simp only [e, bind_stuck] at h; exact h
theorem imp_tnot {ea : Env → Sto → Res D} (σV : L2.St) (H : Hp) (Q : Bool → Hp → Prop)
    (h : tT K W (fun σ M => (ea σ M).bind fun x M1 => onB x (.ok (.bl false) M1) (.ok (.bl true) M1)) σV H Q) : tNot (tT K W ea) σV H Q := by
  obtain ⟨ι, σ, M, hs, m, h⟩ := h
  refine ⟨ι, σ, M, hs, m, ?_⟩
  simp only [toB_bind] at h
  cases e : ea σ M with
  | ok d M1 =>
    simp only [e, bind_ok] at h
    cases d with
    | bl k =>
      intro ι1 H1 b x1 m1 r1
      cases (show k = b from r1)
      cases k <;> exact h ι1 H1 _ x1 m1 rfl
    | _ => exact h.elim
  | exc y M1 => simp only [e, bind_exc] at h; exact h
  | stuck => simp only [e, bind_stuck] at h; exact h
/-! arguments -/
theorem imp_hnil (σV : L2.St) (H : Hp) (Q : List V → Hp → Prop) (h : tAH K W (fun _ M => .ok [] M) σV H Q) : tNil σV H Q := by
  obtain ⟨ι, σ, M, hs, m, h⟩ := h
  exact h ι H [] (Ext.refl _ _) m Reps.nil
theorem imp_anil (σV : L2.St) (H : Hp) (Q : List V → Hp → Prop) (h : tAA K W (fun _ M => .ok [] M) σV H Q) : tNil σV H Q := by
  obtain ⟨ι, σ, M, hs, m, h⟩ := h
  exact h ι H [] (Ext.refl _ _) m rfl
theorem imp_hcons {ea : Env → Sto → Res D} {er : Env → Sto → Res (List D)} (σV : L2.St) (H : Hp) (Q : List V → Hp → Prop)
    (h : tAH K W (fun σ M => (ea σ M).bind fun d M1 => (home d M1).bind fun d' M2 => (er σ M2).bind fun ds M3 => .ok (d' :: ds) M3) σV H Q) : tCons (tE K W ea) (tAH K W er) σV H Q := by
  obtain ⟨ι, σ, M, hs, m, h⟩ := h
  have h : post K (RL K) ι H (((ea σ M).bind home).bind fun d' M2 => (er σ M2).bind fun ds M3 => .ok (d' :: ds) M3) Q (fun cl d H' => W cl d σV H') := by rw [bind_assoc]; exact h
  refine ⟨ι, σ, M, hs, m, post_home (post_mono (post_bind (R1 := RH K) mono_RL h) fun x H1 h1 => ?_)⟩
  obtain ⟨ι1, a, M1, x1, m1, r1, h1⟩ := h1
  refine ⟨ι1, σ, M1, hs.mono x1, m1, post_mono (post_bind (R1 := RL K) mono_RL h1) fun ys H2 h2 => ?_⟩
  obtain ⟨ι2, ds, M2, x2, m2, r2, h2⟩ := h2
  exact h2 ι2 H2 (x :: ys) (Ext.refl _ _) m2 (Reps.cons ⟨Rep.mono x2 _ _ r1.1, r1.2⟩ r2)
theorem imp_acons {ea : Env → Sto → Res D} {er : Env → Sto → Res (List D)} (σV : L2.St) (H : Hp) (Q : List V → Hp → Prop)
    (h : tAA K W (fun σ M => (ea σ M).bind fun d M1 => (er σ M1).bind fun ds M3 => .ok (d :: ds) M3) σV H Q) : tCons (tE K W ea) (tAA K W er) σV H Q := by
  obtain ⟨ι, σ, M, hs, m, h⟩ := h
  refine ⟨ι, σ, M, hs, m, post_mono (post_bind (R1 := RV K) mono_RLA h) fun x H1 h1 => ?_⟩
  obtain ⟨ι1, a, M1, x1, m1, r1, h1⟩ := h1
  refine ⟨ι1, σ, M1, hs.mono x1, m1, post_mono (post_bind (R1 := RLA K) mono_RLA h1) fun ys H2 h2 => ?_⟩
  obtain ⟨ι2, ds, M2, x2, m2, r2, h2⟩ := h2
  exact h2 ι2 H2 (x :: ys) (Ext.refl _ _) m2 ⟨x, ys, rfl, Rep.mono x2 _ _ r1.1, r2⟩
end
/-! ### what is walked -/
/-- J gives the items xs, as long as what g says stays -/
def Walk (K : KK) (ι : List Addr) (H : Hp) (J : It) (xs : List D) (g : Gd) : Prop :=
  ∀ ι' H' M', Ext ι H ι' H' → RelM K ι' H' M' → okG g M' → ∀ i : Nat,
    (i < xs.length → J.go i H' ∧ ∀ v H'', J.yld i H' v H'' → Ext ι' H' ι' H'' ∧ RelM K ι' H'' M' ∧ ∃ d, xs[i]? = some d ∧ Rep K ι' H'' d v ∧ homed d = true) ∧ (xs.length ≤ i → J.stop i H')
def RI (K : KK) : RR (List D × Gd) It := fun _ ι' H' p J => Walk K ι' H' J p.1 p.2
theorem mono_RI {K : KK} : Mono (RI K) := fun _ _ _ _ _ _ _ _ _ h => h
def tI (K : KK) (W : WX) (ev : Env → Sto → Res (List D × Gd)) : TI := fun σV H R => ∃ ι σ M, RelS K ι H σ σV ∧ RelM K ι H M ∧ post K (RI K) ι H (ev σ M) R (fun cl d H' => W cl d σV H')
section
variable {K : KK} {ι : List Addr} {H : Hp} {M : Sto}
theorem walk_tmp {a : Addr} {xs : List D} {vs : List V} (hn : a ∉ ι) (h : H a = some (.lst vs)) (r : Reps K ι H xs vs) : Walk K ι H (Itl K.K a) xs none := by
  intro ι' H' M' x m' _ i
  have h' := x.keep a _ hn h
  have r' := Reps.mono x _ _ r
  refine ⟨fun hi => ?_, fun hi => ⟨vs, SqL.of h', by rw [← r.length]; exact hi⟩⟩
  obtain ⟨v, ev, rv⟩ := r'.get (List.getElem?_eq_getElem hi)
  refine ⟨⟨vs, v, SqL.of h', ev⟩, ?_⟩
  rintro w H'' ⟨rfl, hw⟩
  have e := hw vs (SqL.of h')
  rw [ev] at e; cases e
  exact ⟨Ext.refl _ _, m', _, List.getElem?_eq_getElem hi, rv⟩
theorem walk_frl {a : Addr} {xs : List D} {vs : List V} (h : SqF K.K H a vs) (r : Reps K ι H xs vs) : Walk K ι H (Itl K.K a) xs none := by
  intro ι' H' M' x m' _ i
  have h' : SqF K.K H' a vs := by
    rcases h with ⟨o, h⟩ | h
    · exact .inl ⟨o, x.frz _ _ _ h⟩
    · exact .inr h
  have r' := Reps.mono x _ _ r
  refine ⟨fun hi => ?_, fun hi => ⟨vs, h'.sql, by rw [← r.length]; exact hi⟩⟩
  obtain ⟨v, ev, rv⟩ := r'.get (List.getElem?_eq_getElem hi)
  refine ⟨⟨vs, v, h'.sql, ev⟩, ?_⟩
  rintro w H'' ⟨rfl, hw⟩
  have e := hw vs h'.sql
  rw [ev] at e; cases e
  exact ⟨Ext.refl _ _, m', _, List.getElem?_eq_getElem hi, rv⟩
theorem walk_ref {h : Nat} {a : Addr} {xs : List D} (ea : ι[h]? = some a) : Walk K ι H (Itl K.K a) xs (some (h, xs)) := by
  intro ι' H' M' x m' g i
  have q : M'[h]? = some (.lst xs) := g
  obtain ⟨b, eb, vs, h', r'⟩ := m'.obj h _ q
  rw [x.get ea] at eb; cases eb
  refine ⟨fun hi => ?_, fun hi => ⟨vs, SqL.of h', by rw [← r'.length]; exact hi⟩⟩
  obtain ⟨v, ev, rv⟩ := r'.get (List.getElem?_eq_getElem hi)
  refine ⟨⟨vs, v, SqL.of h', ev⟩, ?_⟩
  rintro w H'' ⟨rfl, hw⟩
  have e := hw vs (SqL.of h')
  rw [ev] at e; cases e
  exact ⟨Ext.refl _ _, m', _, List.getElem?_eq_getElem hi, rv⟩
theorem walk_tup {a : Addr} {xs : List D} {vs : List V} (h : SqT K.K H a vs) (r : Reps K ι H xs vs) : Walk K ι H (Itt K.K a) xs none := by
  intro ι' H' M' x m' _ i
  have h' := x.rdT h
  have r' := Reps.mono x _ _ r
  refine ⟨fun hi => ?_, fun hi => ⟨vs, h', by rw [← r.length]; exact hi⟩⟩
  obtain ⟨v, ev, rv⟩ := r'.get (List.getElem?_eq_getElem hi)
  refine ⟨⟨vs, v, h', ev⟩, ?_⟩
  rintro w H'' ⟨rfl, hw⟩
  have e := hw vs h'
  rw [ev] at e; cases e
  exact ⟨Ext.refl _ _, m', _, List.getElem?_eq_getElem hi, rv⟩
theorem walk_str (s : List Nat) : Walk K ι H (Its ⟨s.toArray⟩) (s.map fun c => .str [c]) none := by
  intro ι' H' M' x m' _ i
  refine ⟨fun hi => ?_, fun hi => ?_⟩
  · have hi' : i < s.length := by simpa using hi
    refine ⟨by show i < (⟨s.toArray⟩ : Str).cps.size; simpa using hi', ?_⟩
    rintro w H'' ⟨rfl, c, ec, rfl⟩
    have ec' : s[i]? = some c := by simpa using ec
    exact ⟨Ext.refl _ _, m', .str [c], by rw [List.getElem?_map, ec']; rfl, rep_str [c], rfl⟩
  · show (⟨s.toArray⟩ : Str).cps.size ≤ i
    simpa using hi
theorem walk_rng (lo : Int) (n : Nat) : Walk K ι H (Itr lo n) (rngD lo n) none := by
  intro ι' H' M' x m' _ i
  have hl : (rngD lo n).length = n := by simp [rngD]
  refine ⟨fun hi => ?_, fun hi => ?_⟩
  · have hi' : i < n := by rw [hl] at hi; exact hi
    refine ⟨hi', ?_⟩
    rintro w H'' ⟨rfl, rfl⟩
    refine ⟨Ext.refl _ _, m', .int (lo + i), ?_, rep_int _, rfl⟩
    unfold rngD
    rw [List.getElem?_map, List.getElem?_range hi']
    rfl
  · show n ≤ i
    rw [hl] at hi; exact hi
/-- what any value gives, walked -/
def iAny (K : PySem.W.Frag) (x : V) (H : Hp) (R : It → Hp → Prop) : Prop :=
  (∃ a, x = .ref a ∧ (∃ xs, SqL K H a xs) ∧ R (Itl K a) H) ∨ (∃ a, x = .ref a ∧ (∃ xs, SqT K H a xs) ∧ R (Itt K a) H) ∨ ∃ s, x = .str s ∧ R (Its s) H
theorem itOf_rep (m : RelM K ι H M) {d : D} {v : V} {p : List D × Gd} {R : It → Hp → Prop} {E : XK} (e : itOf d M = some p) (r : Rep K ι H d v) (h : post K (RI K) ι H (.ok p M) R E) : iAny K.K v H R := by
  have go : ∀ J, Walk K ι H J p.1 p.2 → R J H := fun J w => h ι H J (Ext.refl _ _) m w
  cases d with
  | lst xs =>
    cases e
    simp only [Rep] at r
    obtain ⟨a, vs, rfl, h1, h2, h3⟩ := r
    exact .inl ⟨a, rfl, ⟨vs, SqL.of h1⟩, go _ (walk_tmp h2 h1 h3)⟩
  | frl xs =>
    cases e
    simp only [Rep] at r
    obtain ⟨a, vs, rfl, h1, h3⟩ := r
    exact .inl ⟨a, rfl, ⟨vs, h1.sql⟩, go _ (walk_frl h1 h3)⟩
  | tup xs =>
    cases e
    simp only [Rep] at r
    obtain ⟨a, vs, rfl, h1, h3⟩ := r
    exact .inr (.inl ⟨a, rfl, ⟨vs, h1.sqt⟩, go _ (walk_tup (h1.sqt) h3)⟩)
  | ktp xs =>
    cases e
    simp only [Rep] at r
    obtain ⟨a, vs, rfl, h1, h3⟩ := r
    exact .inr (.inl ⟨a, rfl, ⟨vs, h1.sqt⟩, go _ (walk_tup h1.sqt h3)⟩)
  | str s =>
    cases e
    simp only [Rep] at r; subst r
    exact .inr (.inr ⟨_, rfl, go _ (walk_str s)⟩)
  | ref hh =>
    simp only [itOf] at e
    split at e
    · rename_i xs q; cases e
      obtain ⟨a, vs, rfl, _, ea, h1, h3⟩ := m.atL q r
      exact .inl ⟨a, rfl, ⟨vs, SqL.of h1⟩, go _ (walk_ref ea)⟩
    · cases e
  | _ => simp [itOf] at e
end
/-- for x in e, e a list, a tuple or a text -/
theorem pi_any {X : Cx} {tg l : Expr} {tl : TE} (hl : PE X l tl) : PI X tg l (fun σ H R => tl σ H fun x H1 => iAny X.K x H1 R) := by
  refine ⟨fun pins s σ H R I h => ?_⟩
  refine thn (hl.run pins s σ H _ I h) fun v s1 ⟨x, H1, I1, r1, q1⟩ => ?_
  rcases q1 with ⟨a, e, ⟨xs, hq⟩, q⟩ | ⟨a, e, ⟨xs, hq⟩, q⟩ | ⟨z, e, q⟩
  · subst e
    cases r1
    obtain ⟨its, rv, p, hz⟩ := I1.list hq
    refine wpAny_pyIter_list p.isList ?_
    refine ⟨s1.heap.objs.size, [s1.heap.objs.size], _, _, H1, rfl, I1.kept (t' := s1.toks) fun b o e => Heap.get?_push_of_some _ e, turn_list a _, ⟨_, Heap.get?_push_size _ rfl, rfl, rfl⟩, fun b hb => ?_, q⟩
    have e : b = s1.heap.objs.size := by simpa using hb
    subst e
    exact I1.fpOk (Nat.le_refl _) (I1.hok.fresh (Nat.le_refl _))
  · subst e
    cases r1
    obtain ⟨its, rv, p, hz⟩ := I1.tuple hq
    refine wpAny_pyIter_tuple (show s1.heap.IsTuple a its.toArray from p) ?_
    refine ⟨s1.heap.objs.size, [s1.heap.objs.size], _, _, H1, rfl, I1.kept (t' := s1.toks) fun b o e => Heap.get?_push_of_some _ e, turn_tuple a _, ⟨_, Heap.get?_push_size _ rfl, rfl, rfl⟩, fun b hb => ?_, q⟩
    have e : b = s1.heap.objs.size := by simpa using hb
    subst e
    exact I1.fpOk (Nat.le_refl _) (I1.hok.fresh (Nat.le_refl _))
  · subst e
    obtain ⟨t, rfl⟩ := r1
    cases ha : z.cps.all (· < 128)
    · exact wpAny_pyIter_wide ha (pi_one (tk := s1.toks) I1 _ (turn_str _ z t "str_iterator" (.inr rfl)) ⟨_, Heap.get?_push_size _ rfl, rfl, rfl⟩ q)
    · exact wpAny_pyIter_ascii ha (pi_one (tk := s1.toks) I1 _ (turn_str _ z t "str_ascii_iterator" (.inl rfl)) ⟨_, Heap.get?_push_size _ rfl, rfl, rfl⟩ q)
end MI

set_option Elab.async false
set_option linter.all false
set_option maxRecDepth 100000
/-! MIl: targets, comprehensions, loops: readings. -/
namespace MI
open PySem PySem.Spec PyProof.Rows L2
def gNames : List Nat → TGs
  | [] => gNil
  | i :: r => gCons (gName i) (gNames r)
def gTgt (K : PySem.W.Frag) : Tg → TG
  | .one i => gName i
  | .tup is => gTup K is.length (gNames is)
def inOwn (own : List Nat) : Tg → Bool
  | .one i => own.contains i
  | .tup is => is.all fun i => own.contains i
section
variable {K : KK} {ι : List Addr} {H : Hp} {M : Sto}
theorem RelS.set {σ : Env} {σV : L2.St} (h : RelS K ι H σ σV) (i : Nat) {d : D} {v : V} (r : Rep K ι H d v) (hh : homed d = true) : RelS K ι H (σ.set i (some d)) (σV.set i (some v)) := by
  refine ⟨by simp [h.1], fun j e he => ?_⟩
  by_cases hj : i = j
  · subst hj
    by_cases hl : i < σ.length
    · rw [List.getElem?_set_self hl] at he
      cases he
      exact ⟨hh, v, by rw [List.getElem?_set_self (by rw [← h.1]; exact hl)], r⟩
    · rw [List.getElem?_eq_none (by simpa using hl)] at he; cases he
  · rw [List.getElem?_set_ne hj] at he ⊢
    exact h.2 j e he
theorem RelS.unset {σ : Env} {σV : L2.St} (h : RelS K ι H σ σV) (i : Nat) : RelS K ι H (σ.set i none) (σV.set i none) := by
  refine ⟨by simp [h.1], fun j e he => ?_⟩
  by_cases hj : i = j
  · subst hj
    by_cases hl : i < σ.length
    · rw [List.getElem?_set_self hl] at he; cases he
    · rw [List.getElem?_eq_none (by simpa using hl)] at he; cases he
  · rw [List.getElem?_set_ne hj] at he ⊢
    exact h.2 j e he
theorem RelS.wipe {σ : Env} {σV : L2.St} (h : RelS K ι H σ σV) : ∀ own : List Nat, RelS K ι H (wipeD σ own) (wipe σV own)
  | [] => h
  | v :: vs => (RelS.wipe h vs).unset v
/-- the machine stores as the small language does; its slots but those of the target stay -/
theorem gNames_rep {Q : L2.St → Hp → Prop} : ∀ {is : List Nat} {xs : List D} {vs : List V} {σ : Env} {σV : L2.St}, RelS K ι H σ σV → Reps K ι H xs vs → xs.length = is.length →
    (∀ σV', RelS K ι H ((is.zip xs).foldl (fun σ p => σ.set p.1 (some p.2)) σ) σV' → (∀ own : List Nat, (∀ i ∈ is, i ∈ own) → L2.wipe σV' own = L2.wipe σV own) → Q σV' H) → gNames is vs σV H Q
  | [], [], vs, σ, σV, h, r, _, q => by
    simp only [Reps] at r
    exact ⟨r, q σV h fun _ _ => rfl⟩
  | i :: is, x :: xs, vs, σ, σV, h, r, hl, q => by
    simp only [Reps] at r
    obtain ⟨v, u, rfl, h1, h2⟩ := r
    refine ⟨v, u, rfl, gNames_rep (h.set i h1.1 h1.2) h2 (by simpa using hl) fun σV' hr hw => q σV' hr fun own ho => ?_⟩
    rw [hw own fun j hj => ho j (List.mem_cons_of_mem _ hj)]
    exact wipe_set (ho i List.mem_cons_self)
  | [], x :: xs, vs, σ, σV, h, r, hl, q => by simp at hl
  | i :: is, [], vs, σ, σV, h, r, hl, q => by simp at hl
where
  wipe_set {σV : L2.St} {i : Nat} {v : V} : ∀ {own : List Nat}, i ∈ own → L2.wipe (σV.set i (some v)) own = L2.wipe σV own
    | j :: own, hi => by
      unfold L2.wipe
      by_cases e : i = j
      · subst e
        have go : ∀ (l : List Nat) (τ : L2.St), (L2.wipe (τ.set i (some v)) l).set i none = (L2.wipe τ l).set i none := by
          intro l
          induction l with
          | nil => intro τ; simp [L2.wipe]
          | cons k l ih =>
            intro τ
            unfold L2.wipe
            by_cases ek : k = i
            · subst ek; simpa using ih τ
            · rw [List.set_comm _ _ ek, ih, List.set_comm _ _ (Ne.symm ek)]
        exact go own σV
      · rw [wipe_set (List.mem_of_ne_of_mem e hi)]
theorem gTgt_rep {tg : Tg} {d : D} {v : V} {σ σ' : Env} {σV : L2.St} {Q : L2.St → Hp → Prop} (h : RelS K ι H σ σV) (r : Rep K ι H d v) (hh : homed d = true) (e : bindTg tg d σ = some σ')
    (q : ∀ σV', RelS K ι H σ' σV' → (∀ own : List Nat, inOwn own tg = true → L2.wipe σV' own = L2.wipe σV own) → Q σV' H) : gTgt K.K tg v σV H Q := by
  cases tg with
  | one i =>
    cases e
    exact q _ (h.set _ r hh) fun own ho => gNames_rep.wipe_set (by simpa [inOwn] using ho)
  | tup is =>
    cases d with
    | tup xs =>
      simp only [bindTg] at e
      split at e
      · rename_i hl
        cases e
        simp only [Rep] at r
        obtain ⟨a, vs, rfl, h1, h2⟩ := r
        exact ⟨a, vs, rfl, h1.sqt, by rw [← h2.length]; exact hl, gNames_rep h h2 hl fun σV' h1 h2 => q σV' h1 fun own ho => h2 own (by simpa [inOwn] using ho)⟩
      · cases e
    | _ => simp [bindTg] at e
/-! ### comprehensions -/
theorem wipeD_len (σ : Env) : ∀ own : List Nat, (wipeD σ own).length = σ.length
  | [] => rfl
  | v :: vs => by unfold wipeD; rw [List.length_set, wipeD_len σ vs]
theorem compL_noexc {ev : Env → Sto → Res (Option D)} {tg : Tg} {g : Gd} {σ : Env} : ∀ (xs : List D) (M : Sto) (y : Ex) (M2 : Sto), compL ev tg g σ xs M ≠ .exc y M2
  | [], M, y, M2 => by unfold compL; split <;> simp
  | x :: xs, M, y, M2 => by
    unfold compL
    split
    · cases bindTg tg x σ with
      | none => simp [ofO]
      | some σ' =>
        simp only [ofO_some]
        cases ev σ' M with
        | ok o M1 =>
          simp only [noX_ok, bind_ok]
          cases e : compL ev tg g σ xs M1 with
          | ok r M3 => simp
          | exc z M3 => exact absurd e (compL_noexc xs M1 z M3)
          | stuck => simp
        | exc z M1 => simp [Res.noX]
        | stuck => simp [Res.noX]
    · simp
theorem wipe_wipe (τ : L2.St) : ∀ own : List Nat, L2.wipe (L2.wipe τ own) own = L2.wipe τ own
  | own => by
    have go : ∀ (l own : List Nat), (∀ i ∈ l, i ∈ own) → L2.wipe (L2.wipe τ own) l = L2.wipe τ own := by
      intro l
      induction l with
      | nil => intro own _; rfl
      | cons k l ih =>
        intro own h
        show (L2.wipe (L2.wipe τ own) l).set k none = _
        rw [ih own fun i hi => h i (List.mem_cons_of_mem _ hi)]
        have hk := h k List.mem_cons_self
        have none_at : ∀ (own : List Nat), k ∈ own → (L2.wipe τ own).set k none = L2.wipe τ own := by
          intro own
          induction own with
          | nil => intro h; cases h
          | cons j own ih2 =>
            intro hm
            unfold L2.wipe
            by_cases e : k = j
            · subst e; rw [List.set_set]
            · rw [List.set_comm _ _ (Ne.symm e), ih2 (List.mem_of_ne_of_mem e hm)]
        exact none_at own hk
    exact go own own fun _ h => h
theorem Ext.updnew {ι' : List Addr} {H' : Hp} (x : Ext ι H ι' H') {Dn : Addr} {o : HO} (h : H Dn = none) : Ext ι H ι' (upd H' Dn o) := by
  refine ⟨x.grow, fun a u n q => ?_, fun a q => ?_, fun a u w q => ?_, fun a xs q => ?_⟩
  · rw [upd_ne (ne_of_none q h)]; exact x.keep a u n q
  · by_cases e : a = Dn
    · subst e; rw [upd_same]; simp
    · rw [upd_ne e]; exact x.there a q
  · rw [upd_ne (ne_of_none q h)]; exact x.frz a u w q
  · rw [upd_ne (ne_of_none q h)]; exact x.tup a xs q
theorem Ext.notin {ι' : List Addr} {H' : Hp} (x : Ext ι H ι' H') {a : Addr} (h : H a ≠ none) (n : a ∉ ι) : a ∉ ι' := by
  obtain ⟨k, e, hk⟩ := x.grow
  rw [e]
  intro q
  rcases List.mem_append.mp q with q | q
  · exact n q
  · exact h (hk a q)
theorem turnC_ok {ec ee : Env → Sto → Res D} {σ : Env} {M M2 : Sto} {o : Option D} (h : (turnC ec ee σ M).noX = .ok o M2) :
    (ec σ M = .ok (.bl false) M2 ∧ o = none) ∨ ∃ M1 d' , ec σ M = .ok (.bl true) M1 ∧ (ee σ M1).bind home = .ok d' M2 ∧ o = some d' := by
  unfold turnC at h
  cases e : ec σ M with
  | ok d M1 =>
    rw [e, bind_ok] at h
    cases d with
    | bl k =>
      cases k with
      | true =>
        right
        refine ⟨M1, ?_⟩
        simp only [onB_bl, if_true] at h
        cases e2 : ee σ M1 with
        | ok d2 M3 =>
          rw [e2, bind_ok] at h
          cases e3 : home d2 M3 with
          | ok d3 M4 => rw [e3, bind_ok, noX_ok] at h; cases h; exact ⟨d3, rfl, by rw [bind_ok, e3], rfl⟩
          | exc y M4 => rw [e3] at h; cases h
          | stuck => rw [e3] at h; cases h
        | exc y M3 => rw [e2] at h; cases h
        | stuck => rw [e2] at h; cases h
      | false => simp only [onB_bl, Bool.false_eq_true, if_false, noX_ok] at h; cases h; exact .inl ⟨rfl, rfl⟩
    | _ => simp [Res.noX, onB] at h
  | exc y M1 => rw [e] at h; cases h
  | stuck => rw [e] at h; cases h
theorem comp_imp {W : WX} {ei : Env → Sto → Res (List D × Gd)} {ec ee : Env → Sto → Res D} {tg : Tg} {own : List Nat} (ho : inOwn own tg = true) (σV : L2.St) (Q : VK)
    (h : tE K W (fun σ M => (ei σ M).bind fun p M1 => if p.1.length < LINE then (compL (turnC ec ee) tg p.2 (wipeD σ own) p.1 M1).bind fun ds M2 => .ok (.lst ds) M2 else .stuck) σV H Q) :
    tLc (tI K W ei) (gTgt K.K tg) (tT K (fun _ _ _ _ => False) ec) (tE K (fun _ _ _ _ => False) ee) own σV H Q := by
  obtain ⟨ι, σ, M, hs, m, h⟩ := h
  refine ⟨ι, σ, M, hs, m, post_mono (post_bind mono_RV h) fun J H1 h1 => ?_⟩
  obtain ⟨ι1, p, M1, x1, m1, w1, h1⟩ := h1
  obtain ⟨hlen, h1⟩ := post_ite h1
  intro Dn hD
  -- the whole is made
  cases ec0 : compL (turnC ec ee) tg p.2 (wipeD σ own) p.1 M1 with
  | exc y M2 => exact absurd ec0 (compL_noexc _ _ _ _)
  | stuck => rw [ec0] at h1; exact h1.elim
  | ok total Mend =>
    rw [ec0, bind_ok] at h1
    let Inv := fun (i : Nat) (H' : Hp) => i ≤ p.1.length ∧ ∃ ι' M' done acc tail, Ext ι1 H1 ι' H' ∧ RelM K ι' H' M' ∧ H' Dn = some (.lst acc) ∧ Dn ∉ ι' ∧ Reps K ι' H' done acc ∧ acc.length ≤ i ∧
      compL (turnC ec ee) tg p.2 (wipeD σ own) (p.1.drop i) M' = .ok tail Mend ∧ done ++ tail = total
    refine ⟨fun i k H' => k = p.1.length - i ∧ Inv i H', ⟨p.1.length, by simp, Nat.zero_le _, ι1, M1, [], [], total, ext_new hD, m1.new hD, upd_same, m1.notin hD, Reps.nil, Nat.le_refl _, by simpa using ec0, rfl⟩, ?_⟩
    rintro i k H' ⟨rfl, hi, ι', M', done, acc, tail, x', m', hacc, hnot, hreps, hle, hrest, htot⟩
    by_cases hlt : i < p.1.length
    · rw [List.drop_eq_getElem_cons hlt] at hrest
      unfold compL at hrest
      split at hrest
      case isFalse => cases hrest
      rename_i hok
      cases eb : bindTg tg p.1[i] (wipeD σ own) with
      | none => rw [eb] at hrest; cases hrest
      | some σ' =>
        rw [eb, ofO_some] at hrest
        cases et : (turnC ec ee σ' M').noX with
        | exc y M2 => rw [et] at hrest; cases hrest
        | stuck => rw [et] at hrest; cases hrest
        | ok o M2 =>
          rw [et, bind_ok] at hrest
          cases er : compL (turnC ec ee) tg p.2 (wipeD σ own) (p.1.drop (i + 1)) M2 with
          | exc y M3 => rw [er] at hrest; cases hrest
          | stuck => rw [er] at hrest; cases hrest
          | ok tl' M3 =>
            rw [er, bind_ok] at hrest
            obtain ⟨hgo, hy⟩ := (w1 ι' H' M' x' m' hok i).1 hlt
            refine .inr ⟨hgo, Inv (i + 1), fun H'' n => ⟨_, by omega, rfl, n⟩, fun v H2 y => ?_⟩
            obtain ⟨x2, m2, d, ed, rd, hd⟩ := hy v H2 y
            rw [List.getElem?_eq_getElem hlt] at ed
            cases ed
            refine gTgt_rep ((((hs.mono x1).mono x').mono x2).wipe own) rd hd eb fun σ2 hs2 hw => ⟨by rw [hw own ho, wipe_wipe], ?_⟩
            refine ⟨ι', σ', M', hs2, m2, ?_⟩
            rcases turnC_ok et with ⟨e1, rfl⟩ | ⟨Mc, d', e1, e2, rfl⟩
            · rw [e1]
              intro ι3 H3 b x3 m3 r3
              cases (show false = b from r3)
              rw [if_neg Bool.false_ne_true]
              have xx := x2.trans x3
              cases hrest
              exact ⟨hlt, ι3, M2, done, acc, tl', x'.trans xx, m3, xx.keep _ _ hnot hacc, xx.notin (by rw [hacc]; simp) hnot, Reps.mono xx _ _ hreps, by omega, er, htot⟩
            · rw [e1]
              intro ι3 H3 b x3 m3 r3
              cases (show true = b from r3)
              rw [if_pos rfl]
              refine ⟨ι3, σ', Mc, hs2.mono x3, m3, post_home ?_⟩
              rw [e2]
              intro ι4 H4 v4 x4 m4 r4
              have xx := x2.trans (x3.trans x4)
              have hacc4 := xx.keep _ _ hnot hacc
              have hnot4 := xx.notin (by rw [hacc]; simp) hnot
              cases hrest
              refine ⟨acc, hacc4, by have : (LINE : Nat) = sizeLine := rfl; omega, hlt, ι4, M2, done ++ [d'], acc ++ [v4], tl', (x'.trans xx).updnew hD, ?_, upd_same, hnot4, ?_, by simp; omega, er, ?_⟩
              · exact m4.other hnot4 (ext0_other (fun xs q => by rw [hacc4] at q; cases q) (fun ob u q => by rw [hacc4] at q; cases q))
              · have x0 : Ext0 ι4 H4 ι4 (upd H4 Dn (.lst (acc ++ [v4]))) := ext0_other (fun xs q => by rw [hacc4] at q; cases q) (fun ob u q => by rw [hacc4] at q; cases q)
                exact Reps.mono0 x0 _ _ ((Reps.mono xx _ _ hreps).append (Reps.cons r4 Reps.nil))
              · rw [← htot, List.append_assoc]; rfl
    · have hie : i = p.1.length := by omega
      subst hie
      rw [List.drop_length] at hrest
      unfold compL at hrest
      split at hrest
      case isFalse => cases hrest
      rename_i hok
      cases hrest
      rw [List.append_nil] at htot
      subst htot
      refine .inl ⟨(w1 ι' H' _ x' m' hok _).2 (Nat.le_refl _), h1 ι' H' _ x' m' ⟨?_, fun a e => by cases e; exact hD⟩⟩
      simp only [Rep]
      exact ⟨Dn, acc, rfl, hacc, hnot, hreps⟩
end
end MI

set_option Elab.async false
set_option linter.all false
set_option maxRecDepth 100000
/-! MIm: statements' readings. -/
namespace MI
open PySem PySem.Spec PyProof.Rows L2
def postS (K : KK) (ι : List Addr) (H : Hp) (r : SRes) (Dn : Ends) (W : WX) : Prop := match r with
  | .nx σ' M' => ∀ ι' H' σV', Ext ι H ι' H' → RelM K ι' H' M' → RelS K ι' H' σ' σV' → Dn.nx σV' H'
  | .ret d M' => ∀ ι' H' v, Ext ι H ι' H' → RelM K ι' H' M' → RV K H ι' H' d v → Dn.rt v H'
  | .brk σ' M' => ∀ ι' H' σV', Ext ι H ι' H' → RelM K ι' H' M' → RelS K ι' H' σ' σV' → Dn.bk σV' H'
  | .cnt σ' M' => ∀ ι' H' σV', Ext ι H ι' H' → RelM K ι' H' M' → RelS K ι' H' σ' σV' → Dn.ct σV' H'
  | .exc x σ' M' => ∀ ι' H' cl d σV', Ext ι H ι' H' → RelM K ι' H' M' → RepX K ι' H' x cl d → RelS K ι' H' σ' σV' → W cl d σV' H'
  | .stuck => False
def tS (K : KK) (W : WX) (ev : Env → Sto → SRes) : TS := fun Dn σV H => ∃ ι σ M, RelS K ι H σ σV ∧ RelM K ι H M ∧ postS K ι H (ev σ M) Dn W
section
variable {K : KK} {ι ι1 : List Addr} {H H1 : Hp} {M : Sto} {W : WX} {Dn : Ends}
theorem postS_shift (x : Ext ι H ι1 H1) {r : SRes} (h : postS K ι H r Dn W) : postS K ι1 H1 r Dn W := by
  cases r with
  | nx σ M => exact fun ι' H' σV e m s => h ι' H' σV (x.trans e) m s
  | ret d M => exact fun ι' H' v e m q => h ι' H' v (x.trans e) m (mono_RV _ _ _ _ x _ _ _ _ q)
  | brk σ M => exact fun ι' H' σV e m s => h ι' H' σV (x.trans e) m s
  | cnt σ M => exact fun ι' H' σV e m s => h ι' H' σV (x.trans e) m s
  | exc y σ M => exact fun ι' H' cl d σV e m q s => h ι' H' cl d σV (x.trans e) m q s
  | stuck => exact h
theorem postS_then {α β : Type} {R : RR α β} {σ : Env} {σV : L2.St} (hs : RelS K ι H σ σV) {r : Res α} {f : α → Sto → SRes} (h : postS K ι H (r.then σ f) Dn W) :
    post K R ι H r (fun b H1 => ∃ ι1 a M1, Ext ι H ι1 H1 ∧ RelM K ι1 H1 M1 ∧ R H ι1 H1 a b ∧ postS K ι1 H1 (f a M1) Dn W) (fun cl d H' => W cl d σV H') := by
  cases r with
  | ok a M => exact fun ι' H' b e m q => ⟨ι', a, M, e, m, q, postS_shift e h⟩
  | exc y M => exact fun ι' H' cl d e m q => h ι' H' cl d σV e m q (hs.mono e)
  | stuck => exact h
theorem then_bind {α β : Type} (r : Res α) (f : α → Sto → Res β) (σ : Env) (k : β → Sto → SRes) : (r.bind f).then σ k = r.then σ fun a M => (f a M).then σ k := by cases r <;> rfl
theorem postS_home {r : Res D} {σ : Env} {σV : L2.St} (hs : RelS K ι H σ σV) {f : D → Sto → SRes} (h : postS K ι H (r.then σ fun d M1 => (home d M1).then σ f) Dn W) :
    post K (RV K) ι H r (fun v H1 => ∃ ι1 a M1, Ext ι H ι1 H1 ∧ RelM K ι1 H1 M1 ∧ RH K H ι1 H1 a v ∧ postS K ι1 H1 (f a M1) Dn W) (fun cl d H' => W cl d σV H') := by
  rw [← then_bind] at h
  exact post_home (postS_then (R := RH K) hs h)
theorem imp_asg {i : Nat} {ee : Env → Sto → Res D} (Dn : Ends) (σV : L2.St) (H : Hp)
    (h : tS K W (fun σ M => (ee σ M).then σ fun d M1 => (home d M1).then σ fun d' M2 => .nx (σ.set i (some d')) M2) Dn σV H) : tAsg (tE K W ee) (gName i) Dn σV H := by
  obtain ⟨ι, σ, M, hs, m, h⟩ := h
  refine ⟨ι, σ, M, hs, m, post_mono (postS_home hs h) fun v H1 h1 => ?_⟩
  obtain ⟨ι1, d, M1, x1, m1, r1, h1⟩ := h1
  exact h1 ι1 H1 _ (Ext.refl _ _) m1 ((hs.mono x1).set i r1.1 r1.2)
theorem imp_asgT {is : List Nat} {ee : Env → Sto → Res D} (Dn : Ends) (σV : L2.St) (H : Hp)
    (h : tS K W (fun σ M => (ee σ M).then σ fun d M1 => ofS (bindTg (.tup is) d σ) fun σ' => .nx σ' M1) Dn σV H) : tAsg (tE K W ee) (gTgt K.K (.tup is)) Dn σV H := by
  obtain ⟨ι, σ, M, hs, m, h⟩ := h
  refine ⟨ι, σ, M, hs, m, post_mono (postS_then (R := RV K) hs h) fun v H1 h1 => ?_⟩
  obtain ⟨ι1, d, M1, x1, m1, r1, h1⟩ := h1
  cases e : bindTg (.tup is) d σ with
  | none => rw [e] at h1; exact h1.elim
  | some σ' =>
    rw [e] at h1
    have hd : homed d = true := by cases d <;> first | rfl | (simp [bindTg] at e)
    exact gTgt_rep (hs.mono x1) r1.1 hd e fun σV' hs' _ => h1 ι1 H1 σV' (Ext.refl _ _) m1 hs'
theorem imp_asgIx {ee eo ei : Env → Sto → Res D} (Dn : Ends) (σV : L2.St) (H : Hp)
    (h : tS K W (fun σ M => (ee σ M).then σ fun d M1 => (home d M1).then σ fun d' M2 => (eo σ M2).then σ fun x M3 => (ei σ M3).then σ fun y M4 => ofS (setix x y d' M4) fun M5 => .nx σ M5) Dn σV H) : tAsg (tE K W ee) (gSub (tE K W eo) (tE K W ei) rSetL) Dn σV H := by
  obtain ⟨ι, σ, M, hs, m, h⟩ := h
  refine ⟨ι, σ, M, hs, m, post_mono (postS_home hs h) fun v H1 h1 => ?_⟩
  obtain ⟨ι1, d, M1, x1, m1, r1, h1⟩ := h1
  refine ⟨ι1, σ, M1, hs.mono x1, m1, post_mono (postS_then (R := RV K) (hs.mono x1) h1) fun vo H2 h2 => ?_⟩
  obtain ⟨ι2, o, M2, x2, m2, r2, h2⟩ := h2
  refine ⟨ι2, σ, M2, (hs.mono x1).mono x2, m2, post_mono (postS_then (R := RV K) ((hs.mono x1).mono x2) h2) fun vi H3 h3 => ?_⟩
  obtain ⟨ι3, i, M3, x3, m3, r3, h3⟩ := h3
  cases e : setix o i d M3 with
  | none => rw [e] at h3; exact h3.elim
  | some M5 =>
    rw [e] at h3
    obtain ⟨H4, hset, x4, m4⟩ := setix_rep m3 (Rep.mono x3 _ _ r2.1) r3.1 ⟨Rep.mono (x2.trans x3) _ _ r1.1, r1.2⟩ e
    obtain ⟨p, xs, k, j, e1, e2, e3, e4, e5⟩ := hset
    refine ⟨p, xs, k, j, e1, e2, e3, e4, ?_⟩
    rw [e5]
    exact h3 ι3 H4 σV x4 m4 (((hs.mono x1).mono x2).mono (x3.trans x4))
theorem imp_expr {ee : Env → Sto → Res D} (Dn : Ends) (σV : L2.St) (H : Hp) (h : tS K W (fun σ M => (ee σ M).then σ fun _ M1 => .nx σ M1) Dn σV H) : tDrop (tE K W ee) Dn σV H := by
  obtain ⟨ι, σ, M, hs, m, h⟩ := h
  refine ⟨ι, σ, M, hs, m, post_mono (postS_then (R := RV K) hs h) fun v H1 h1 => ?_⟩
  obtain ⟨ι1, d, M1, x1, m1, r1, h1⟩ := h1
  exact h1 ι1 H1 σV (Ext.refl _ _) m1 (hs.mono x1)
theorem imp_ret {ee : Env → Sto → Res D} (Dn : Ends) (σV : L2.St) (H : Hp) (h : tS K W (fun σ M => (ee σ M).then σ fun d M1 => .ret d M1) Dn σV H) : tRet (tE K W ee) Dn σV H := by
  obtain ⟨ι, σ, M, hs, m, h⟩ := h
  refine ⟨ι, σ, M, hs, m, ?_⟩
  cases e : ee σ M with
  | ok d M1 => simp only [e, then_ok] at h; exact fun ι1 H1 v x1 m1 r1 => h ι1 H1 v x1 m1 r1
  | exc y M1 => simp only [e, then_exc] at h; exact fun ι1 H1 cl d x1 m1 r1 => h ι1 H1 cl d σV x1 m1 r1 (hs.mono x1)
  | stuck => simp only [e, then_stuck] at h; exact h
theorem imp_if {ec : Env → Sto → Res D} {ea eb : Env → Sto → SRes} (Dn : Ends) (σV : L2.St) (H : Hp)
    (h : tS K W (fun σ M => (ec σ M).then σ fun k M1 => onS k (ea σ M1) (eb σ M1)) Dn σV H) : tIfS (tT K W ec) (tS K W ea) (tS K W eb) Dn σV H := by
  obtain ⟨ι, σ, M, hs, m, h⟩ := h
  refine ⟨ι, σ, M, hs, m, ?_⟩
  cases e : ec σ M with
  | ok d M1 =>
    simp only [e, then_ok] at h
    cases d with
    | bl k =>
      intro ι1 H1 b x1 m1 r1
      cases (show k = b from r1)
      cases k with
      | true => rw [if_pos rfl]; exact ⟨ι1, σ, M1, hs.mono x1, m1, postS_shift x1 h⟩
      | false => rw [if_neg Bool.false_ne_true]; exact ⟨ι1, σ, M1, hs.mono x1, m1, postS_shift x1 h⟩
    | _ => exact h.elim
  | exc y M1 => simp only [e, then_exc] at h; exact fun ι1 H1 cl d x1 m1 r1 => h ι1 H1 cl d σV x1 m1 r1 (hs.mono x1)
  | stuck => simp only [e, then_stuck] at h; exact h
theorem imp_next (Dn : Ends) (σV : L2.St) (H : Hp) (h : tS K W (fun σ M => .nx σ M) Dn σV H) : tNext Dn σV H := by
  obtain ⟨ι, σ, M, hs, m, h⟩ := h
  exact h ι H σV (Ext.refl _ _) m hs
theorem imp_brk (Dn : Ends) (σV : L2.St) (H : Hp) (h : tS K W (fun σ M => .brk σ M) Dn σV H) : tBreak Dn σV H := by
  obtain ⟨ι, σ, M, hs, m, h⟩ := h
  exact h ι H σV (Ext.refl _ _) m hs
theorem imp_cnt (Dn : Ends) (σV : L2.St) (H : Hp) (h : tS K W (fun σ M => .cnt σ M) Dn σV H) : tCont Dn σV H := by
  obtain ⟨ι, σ, M, hs, m, h⟩ := h
  exact h ι H σV (Ext.refl _ _) m hs
theorem imp_seq {ea eb : Env → Sto → SRes} (Dn : Ends) (σV : L2.St) (H : Hp)
    (h : tS K W (fun σ M => (ea σ M).andThen fun σ' M' => eb σ' M') Dn σV H) : tSeq (tS K W ea) (tS K W eb) Dn σV H := by
  obtain ⟨ι, σ, M, hs, m, h⟩ := h
  refine ⟨ι, σ, M, hs, m, ?_⟩
  cases e : ea σ M with
  | nx σ1 M1 => simp only [e, andThen_nx] at h; exact fun ι1 H1 σV1 x1 m1 s1 => ⟨ι1, σ1, M1, s1, m1, postS_shift x1 h⟩
  | ret d M1 => simp only [e] at h; exact h
  | brk σ1 M1 => simp only [e] at h; exact h
  | cnt σ1 M1 => simp only [e] at h; exact h
  | exc y σ1 M1 => simp only [e] at h; exact h
  | stuck => simp only [e] at h; exact h
theorem imp_for {ei : Env → Sto → Res (List D × Gd)} {eb : Env → Sto → SRes} {tg : Tg} (Dn : Ends) (σV : L2.St) (H : Hp)
    (h : tS K W (fun σ M => (ei σ M).then σ fun p M1 => forL eb tg p.2 p.1 σ M1) Dn σV H) : tFor (tI K W ei) (gTgt K.K tg) (tS K W eb) Dn σV H := by
  obtain ⟨ι, σ, M, hs, m, h⟩ := h
  refine ⟨ι, σ, M, hs, m, post_mono (postS_then (R := RI K) hs h) fun J H1 h1 => ?_⟩
  obtain ⟨ι1, p, M1, x1, m1, w1, h1⟩ := h1
  generalize eR : forL eb tg p.2 p.1 σ M1 = R at h1
  refine ⟨fun i k σV' H' => k = p.1.length - i ∧ i ≤ p.1.length ∧ ∃ ι' σ' M', Ext ι1 H1 ι' H' ∧ RelM K ι' H' M' ∧ RelS K ι' H' σ' σV' ∧ forL eb tg p.2 (p.1.drop i) σ' M' = R,
    ⟨p.1.length, by simp, Nat.zero_le _, ι1, σ, M1, Ext.refl _ _, m1, hs.mono x1, by simpa using eR⟩, ?_⟩
  rintro i k σV' H' ⟨rfl, hi, ι', σ', M', x', m', hs', hrest⟩
  by_cases hlt : i < p.1.length
  · rw [List.drop_eq_getElem_cons hlt] at hrest
    unfold forL at hrest
    split at hrest
    case isFalse => rw [← hrest] at h1; exact h1.elim
    rename_i hok
    cases eb' : bindTg tg p.1[i] σ' with
    | none => rw [eb'] at hrest; simp only at hrest; rw [← hrest] at h1; exact h1.elim
    | some σ2 =>
      rw [eb'] at hrest
      simp only at hrest
      obtain ⟨hgo, hy⟩ := (w1 ι' H' M' x' m' hok i).1 hlt
      refine .inr ⟨hgo, fun σ3 H3 => ∃ ι3 s3 M3, Ext ι1 H1 ι3 H3 ∧ RelM K ι3 H3 M3 ∧ RelS K ι3 H3 s3 σ3 ∧ forL eb tg p.2 (p.1.drop (i + 1)) s3 M3 = R,
        fun σ3 H3 n => ⟨p.1.length - (i + 1), by omega, rfl, hlt, n⟩, fun v H2 y => ?_⟩
      obtain ⟨x2, m2, d, ed, rd, hd⟩ := hy v H2 y
      rw [List.getElem?_eq_getElem hlt] at ed
      cases ed
      refine gTgt_rep (hs'.mono x2) rd hd eb' fun σV2 hs2 _ => ⟨ι', σ2, M', hs2, m2, ?_⟩
      cases er : eb σ2 M' with
      | nx σ3 M3 => simp only [er] at hrest; exact fun ι3 H3 σV3 x3 m3 s3 => ⟨ι3, σ3, M3, x'.trans (x2.trans x3), m3, s3, hrest⟩
      | cnt σ3 M3 => simp only [er] at hrest; exact fun ι3 H3 σV3 x3 m3 s3 => ⟨ι3, σ3, M3, x'.trans (x2.trans x3), m3, s3, hrest⟩
      | brk σ3 M3 => simp only [er] at hrest; rw [← hrest] at h1; exact fun ι3 H3 σV3 x3 m3 s3 => h1 ι3 H3 σV3 (x'.trans (x2.trans x3)) m3 s3
      | ret d3 M3 => simp only [er] at hrest; rw [← hrest] at h1; exact fun ι3 H3 v3 x3 m3 r3 => h1 ι3 H3 v3 (x'.trans (x2.trans x3)) m3 (mono_RV _ _ _ _ (x'.trans x2) _ _ _ _ r3)
      | exc y3 σ3 M3 => simp only [er] at hrest; rw [← hrest] at h1; exact fun ι3 H3 cl d3 σV3 x3 m3 r3 s3 => h1 ι3 H3 cl d3 σV3 (x'.trans (x2.trans x3)) m3 r3 s3
      | stuck => simp only [er] at hrest; rw [← hrest] at h1; exact h1.elim
  · have hie : i = p.1.length := by omega
    subst hie
    rw [List.drop_length] at hrest
    unfold forL at hrest
    split at hrest
    case isFalse => rw [← hrest] at h1; exact h1.elim
    rename_i hok
    rw [← hrest] at h1
    exact .inl ⟨(w1 ι' H' M' x' m' hok _).2 (Nat.le_refl _), h1 ι' H' σV' x' m' hs'⟩
theorem imp_whl {ec : Env → Sto → Res D} {eb : Env → Sto → SRes} {n : Nat} (Dn : Ends) (σV : L2.St) (H : Hp)
    (h : tS K W (fun σ M => whlL ec eb n σ M) Dn σV H) : tWhile (tT K W ec) (tS K W eb) Dn σV H := by
  obtain ⟨ι, σ, M, hs, m, h⟩ := h
  have h : postS K ι H (whlL ec eb n σ M) Dn W := h
  generalize eR : whlL ec eb n σ M = R at h
  refine ⟨fun k σV' H' => ∃ ι' σ' M', Ext ι H ι' H' ∧ RelM K ι' H' M' ∧ RelS K ι' H' σ' σV' ∧ whlL ec eb k σ' M' = R, ⟨n, ι, σ, M, Ext.refl _ _, m, hs, eR⟩, ?_⟩
  rintro k σV' H' ⟨ι', σ', M', x', m', hs', hrest⟩
  cases k with
  | zero => unfold whlL at hrest; rw [← hrest] at h; exact h.elim
  | succ k =>
    unfold whlL at hrest
    refine ⟨ι', σ', M', hs', m', ?_⟩
    cases e : ec σ' M' with
    | stuck => simp only [e, then_stuck] at hrest; rw [← hrest] at h; exact h.elim
    | exc y M1 => simp only [e, then_exc] at hrest; rw [← hrest] at h; exact fun ι1 H1 cl d x1 m1 r1 => h ι1 H1 cl d σV' (x'.trans x1) m1 r1 (hs'.mono x1)
    | ok d M1 =>
      simp only [e, then_ok] at hrest
      cases d with
      | bl b =>
        intro ι1 H1 b' x1 m1 r1
        cases (show b = b' from r1)
        cases b with
        | false => rw [if_neg Bool.false_ne_true]; simp only [onS_bl, Bool.false_eq_true, if_false] at hrest; rw [← hrest] at h; exact h ι1 H1 σV' (x'.trans x1) m1 (hs'.mono x1)
        | true =>
          rw [if_pos rfl]
          simp only [onS_bl, if_true] at hrest
          refine ⟨fun σ3 H3 => ∃ ι3 s3 M3, Ext ι H ι3 H3 ∧ RelM K ι3 H3 M3 ∧ RelS K ι3 H3 s3 σ3 ∧ whlL ec eb k s3 M3 = R, fun σ3 H3 n => ⟨k, Nat.lt_succ_self _, n⟩, ι1, σ', M1, hs'.mono x1, m1, ?_⟩
          cases er : eb σ' M1 with
          | nx σ3 M3 => simp only [er] at hrest; exact fun ι3 H3 σV3 x3 m3 s3 => ⟨ι3, σ3, M3, x'.trans (x1.trans x3), m3, s3, hrest⟩
          | cnt σ3 M3 => simp only [er] at hrest; exact fun ι3 H3 σV3 x3 m3 s3 => ⟨ι3, σ3, M3, x'.trans (x1.trans x3), m3, s3, hrest⟩
          | brk σ3 M3 => simp only [er] at hrest; rw [← hrest] at h; exact fun ι3 H3 σV3 x3 m3 s3 => h ι3 H3 σV3 (x'.trans (x1.trans x3)) m3 s3
          | ret d3 M3 => simp only [er] at hrest; rw [← hrest] at h; exact fun ι3 H3 v3 x3 m3 r3 => h ι3 H3 v3 (x'.trans (x1.trans x3)) m3 (mono_RV _ _ _ _ (x'.trans x1) _ _ _ _ r3)
          | exc y3 σ3 M3 => simp only [er] at hrest; rw [← hrest] at h; exact fun ι3 H3 cl d3 σV3 x3 m3 r3 s3 => h ι3 H3 cl d3 σV3 (x'.trans (x1.trans x3)) m3 r3 s3
          | stuck => simp only [er] at hrest; rw [← hrest] at h; exact h.elim
      | _ => simp only [onS] at hrest; rw [← hrest] at h; exact h.elim
end
end MI

set_option Elab.async false
set_option linter.all false
set_option maxRecDepth 100000
/-! MIn: the checker: this text of Python's is that small text. -/
namespace MI
open PySem PySem.Spec PyProof.Rows L2
structure Nmz where
  T : Prg
  gn : Nat → Option Str
structure Cfg where
  N : List Str
  sc : Scope
  wr : List (Str × NameKind)
  blk : Bool
  calm : Bool
def Cfg.fnB (c : Cfg) (x : Str) : Bool := if c.blk then c.wr.lookup x == some .cell else true
def glbB (c : Cfg) (x : Str) : Bool := decide (c.sc.names.lookup x = some .globalImplicit) && decide (x ≠ "__debug__") && decide (x ≠ "__name__")
def visB (c : Cfg) (i : Nat) (x : Str) : Bool := decide (c.N[i]? = some x) && (match c.sc.names.lookup x with
  | some .local => true
  | some .cell => true
  | some .free => true
  | _ => false) && decide (x ≠ "__debug__") && decide (x ≠ "__classdict__")
def stoB (c : Cfg) (i : Nat) (x : Str) : Bool := decide (c.N[i]? = some x) && (match c.sc.names.lookup x with
  | some .local => true
  | some .cell => c.fnB x
  | _ => false)
def plainX : Expr → Bool
  | .Slice _ _ _ _ => false
  | .Starred _ _ => false
  | .Set _ _ _ => false
  | .SetComp _ _ _ _ => false
  | .DictComp _ _ _ _ _ => false
  | .Call (.Name id _) [] [] _ => decide (id ≠ "super")
  | _ => true
def notLc : Expr → Bool
  | .ListComp _ _ _ _ => false
  | _ => true
def notTup : Expr → Bool
  | .Tuple _ _ _ => false
  | _ => true
def chkNm (c : Cfg) : List Nat → List Expr → Bool
  | [], [] => true
  | i :: is, .Name x _ :: es => stoB c i x && chkNm c is es
  | _, _ => false
def chkTg (c : Cfg) : Tg → Expr → Bool
  | .one i, .Name x _ => stoB c i x
  | .tup is, .Tuple es _ _ => chkNm c is es
  | _, _ => false
def ownOf (N : List Str) (own : List Nat) : List (Str × Nat) := own.map fun i => (N.getD i Str.empty, i)
def Cfg.block (c : Cfg) (scope : Scope) : Cfg := { N := c.N, sc := relS scope c.sc, wr := scope.names, blk := true, calm := c.calm }
def okPos (a b : Pos) : Bool := a.endLine == b.line
def okBM : BM → Bool
  | .append => true
  | .count => true
  | .get => true
  | _ => false
mutual
def chkE (q : Nmz) (c : Cfg) : C → Expr → Bool
  | .var i, .Name x _ => visB c i x
  | .int i, .Constant (.int j) _ _ => decide (i = j)
  | .str s, .Constant (.str x) _ _ => decide (x = ⟨s.toArray⟩)
  | .bl b, .Constant (.bool b') _ _ => b == b'
  | .non, .Constant .none _ _ => true
  | .glob g, .Name x _ => decide (q.gn g = some x) && glbB c x
  | .bin op a b, .BinOp l o r _ => decide (o = op.op) && (chkE q c a l && chkE q c b r)
  | .neg a, .UnaryOp .USub l _ => chkE q c a l
  | .cmp op a b, .Compare l [o] [r] _ => decide (o = op.op) && (plainX r && (chkE q c a l && chkE q c b r))
  | .cmp2 op1 op2 a b d, .Compare l [o1, o2] [r, s] _ => decide (o1 = op1.op) && (decide (o2 = op2.op) && (plainX s && (chkE q c a l && (chkE q c b r && chkE q c d s))))
  | .and a b, .BoolOp .And (l :: r :: rest) p => chkE q c a l && (match rest with
    | [] => chkE q c b r
    | r2 :: rest => chkE q c b (.BoolOp .And (r :: r2 :: rest) p))
  | .or a b, .BoolOp .Or (l :: r :: rest) p => chkE q c a l && (match rest with
    | [] => chkE q c b r
    | r2 :: rest => chkE q c b (.BoolOp .Or (r :: r2 :: rest) p))
  | .not a, .UnaryOp .Not l _ => chkE q c a l
  | .tup xs, .Tuple es _ _ => chkL q c xs es
  | .lst xs, .List es _ => chkL q c xs es
  | .ix a b, .Subscript l r _ => plainX r && (chkE q c a l && chkE q c b r)
  | .sl l h a lo hi, .Subscript e (.Slice o1 o2 none _) _ => chkE q c a e && ((match l, o1 with
      | false, none => true
      | true, some e1 => chkE q c lo e1
      | _, _ => false) && (match h, o2 with
      | false, none => true
      | true, some e2 => chkE q c hi e2
      | _, _ => false))
  | .rev a, .Subscript e (.Slice none none (some (.UnaryOp .USub (.Constant (.int 1) _ _) _)) _) _ => chkE q c a e
  | .comp e tg it cond own, .ListComp elt [⟨t, iter, ifs, 0⟩] scope _ => c.calm && (blkC c.N c.sc scope (ownOf c.N own) && (inOwn own tg && (plainX iter && (chkI q c it t iter && (chkTg (c.block scope) tg t && ((match ifs with
      | [] => (match cond with
        | .bl true => true
        | _ => false)
      | [f] => chkE q (c.block scope) cond f
      | _ => false) && chkE q (c.block scope) e elt))))))
  | .call f args, .Call (.Name x _) es [] _ => c.calm && (decide ((q.T.fn f).map (·.name) = some x) && (glbB c x && chkL q c args es))
  | .bi .lenset (.cons a .nil), .Call (.Name x _) [.Call (.Name y _) [e] [] _] [] _ => c.calm && (decide (x = "len") && (glbB c x && (decide (y = "set") && (glbB c y && (plainX e && chkE q c a e)))))
  | .bi .sortset (.cons a .nil), .Call (.Name x _) [.Call (.Name y _) [e] [] _] [] _ => c.calm && (decide (x = "sorted") && (glbB c x && (decide (y = "set") && (glbB c y && (plainX e && chkE q c a e)))))
  | .bi b args, .Call (.Name x _) (e :: es) [] _ => okBI b && c.calm && (decide (b.nm = x) && (glbB c x && chkL q c args (e :: es)))
  | .meth m o args, .Call (.Attribute oe nm apos) es [] cpos => c.calm && (decide (m.nm = nm) && (okBM m && (plainX oe && (okPos apos cpos && (decide (es.length < 29) && (chkE q c o oe && chkL q c args es))))))
  | .isi a t, .Call (.Name x _) [e, .Name y _] [] _ => decide (x = "isinstance") && (glbB c x && (decide (y = Str.ofString t.ty) && (glbB c y && (plainX e && chkE q c a e))))
  | _, _ => false
def chkL (q : Nmz) (c : Cfg) : CL → List Expr → Bool
  | .nil, [] => true
  | .cons a r, e :: es => plainX e && (chkE q c a e && chkL q c r es)
  | _, _ => false
def chkI (q : Nmz) (c : Cfg) : I → Expr → Expr → Bool
  | .it a, _, e => chkE q c a e
  | .range1 a, _, .Call (.Name x _) [e] [] _ => decide (x = "range") && (glbB c x && (plainX e && chkE q c a e))
  | .range2 a b, _, .Call (.Name x _) [e, f] [] _ => decide (x = "range") && (glbB c x && (plainX e && (plainX f && (chkE q c a e && chkE q c b f))))
  | _, _, _ => false
end
/-- y = [..]: the store swaps the comprehension's frame -/
def swapOk (c : Cfg) (y : Str) (py : Pos) : Expr → Bool
  | .ListComp _ _ scope pos => (match c.sc.names.lookup y with
    | some .cell => true
    | some .local => py.line == pos.line && !(scope.names.any fun (n, k) => n == y && (k == .local || k == .cell))
    | _ => false)
  | _ => true
mutual
def chk1 (q : Nmz) (c : Cfg) : S → Stmt → Bool
  | .asg i e, .Assign [.Name y py] v _ => stoB c i y && (swapOk c y py v && (plainX v && chkE q c e v))
  | .asgT is e, .Assign [.Tuple ts _ _] v _ => c.calm && (chkNm c is ts && (notLc v && (notTup v && (plainX v && chkE q c e v))))
  | .asgIx o i e, .Assign [.Subscript oe ie _] v _ => notLc v && (plainX v && (plainX ie && (chkE q c e v && (chkE q c o oe && chkE q c i ie))))
  | .expr e, .Expr v _ => notLc v && (plainX v && chkE q c e v)
  | .ret e, .Return (some v) _ => chkE q c e v
  | .ife t a b, .If e x y _ => chkE q c t e && (chkB q c a x && chkB q c b y)
  | .for_ tg it body, .For t iter b [] _ => c.calm && (plainX iter && (chkI q c it t iter && (chkTg c tg t && chkB q c body b)))
  | .whl t body, .While e b [] _ => chkE q c t e && chkB q c body b
  | .pass, .Pass _ => true
  | .brk, .Break _ => true
  | .cnt, .Continue _ => true
  | _, _ => false
def chkB (q : Nmz) (c : Cfg) : S → List Stmt → Bool
  | .nop, [] => true
  | .seq a b, st :: r => chk1 q c a st && chkB q c b r
  | _, _ => false
end
end MI

set_option Elab.async false
set_option linter.all false
set_option maxRecDepth 100000
/-! MIo: what is checked runs as the small language says: expressions. -/
namespace MI
open PySem PySem.Spec PyProof.Rows L2
/-- a def's promise: what the small language says of n calls' depth -/
def spF (K : KK) (T : Prg) (n f : Nat) (fi : FnI) : Sp := fun vs H Q E => vs.length = fi.ps.length ∧ ∃ ι ds M, Reps K ι H ds vs ∧ RelM K ι H M ∧ post K (RV K) ι H (callN T n f ds M) Q E
/-- the program's defs stand as the table says, to the depth n -/
structure Facts (P : Program) (w : World) (κ : KK) (mg : Str → Option Value) (base : Heap) (q : Nmz) (n : Nat) : Prop where
  fn : ∀ f fi, q.T.fn f = some fi → ∃ a fd, mg fi.name = some (.ref a) ∧ PySem.W.keepIn κ.K (.ref a) = true ∧ Binds κ.K fd fi.ps [] ∧ FnOk P w κ.K mg base (L2.CX P w) n a fd fi.ps (spF κ q.T n f fi)
  glob : ∀ g d, q.T.glob g = some d → ∃ x u v, q.gn g = some x ∧ mg x = some u ∧ RelV v u ∧ homed d = true ∧ ∀ ι H, Rep κ ι H d v
  bi : ∀ b : BI, mg b.nm = none
  range : mg "range" = none
  set : mg "set" = none
  isi : mg "isinstance" = none
  ty : ∀ t : Ty, mg (Str.ofString t.ty) = none
/-- a context that the checker's words are about -/
structure Ok (X : Cx) (c : Cfg) (κ : KK) (q : Nmz) (n : Nat) : Prop where
  sc : X.env.scope = c.sc
  N : X.N = c.N
  nd : X.N.Nodup
  fn : ∀ x, X.fn x = c.fnB x
  K : X.K = κ.K
  units : X.A.units + 65 < cLine
  calm : c.calm = true → X.calm = true ∧ Room n X.A
  facts : Facts X.prog X.w κ X.mg X.base q n
section
variable {env : PySem.Env} {e : Expr}
theorem plain_star (h : plainX e = true) (es : List Expr) : starEach (e :: es) env = (false, eval e env) :: starEach es env := by
  cases e <;> first | rfl | (simp [plainX] at h)
theorem plain_in (h : plainX e = true) (op : CmpOp) : behindInMarks op e = false := by
  cases e <;> first | rfl | (simp [plainX] at h)
theorem plain_ix (h : plainX e = true) : PlainIx e := by
  cases e <;> first | (intro _ _; rfl) | (simp [plainX] at h)
theorem plain_fold (h : plainX e = true) (x : Value) : foldedSetIterable e env x = pure x := by
  cases e <;> first | rfl | (simp [plainX] at h)
theorem plain_base (h : plainX e = true) (f : Str) : attributeBase e f env (eval e env) = eval e env := by
  cases e with
  | Call func args kws pos =>
    cases func with
    | Name id p =>
      cases args with
      | nil =>
        cases kws with
        | nil =>
          have hid : id ≠ "super" := by simpa [plainX] using h
          unfold attributeBase
          have hb : (id != ("super" : Str)) = true := by simpa using hid
          simp only [hb, Bool.true_or, if_true]
        | cons k ks => rfl
      | cons a as => rfl
    | _ => rfl
  | _ => rfl
end
theorem plains_star {env : PySem.Env} : ∀ {es : List Expr}, (∀ e ∈ es, plainX e = true) → ∀ pos, (backTo pos (starEach es env)).any (·.1) = false ∧ (backTo pos (starEach es env)).all (fun x => !x.1) = true := by
  intro es
  induction es with
  | nil => intro _ pos; exact ⟨rfl, rfl⟩
  | cons e es ih =>
    intro h pos
    rw [plain_star (h e List.mem_cons_self)]
    have q := ih (fun e' he => h e' (List.mem_cons_of_mem _ he)) pos
    exact ⟨by show (false || (backTo pos (starEach es env)).any (·.1)) = false; rw [q.1]; rfl, by show (true && (backTo pos (starEach es env)).all _) = true; rw [q.2]; rfl⟩
section
variable {X : Cx} {c : Cfg} {κ : KK} {q : Nmz} {n : Nat}
theorem Ok.vis (ok : Ok X c κ q n) {i : Nat} {x : Str} (h : visB c i x = true) : X.N[i]? = some x ∧ Vis X.env.scope x ∧ (x == ("__debug__" : Str)) = false ∧ (x == ("__classdict__" : Str)) = false := by
  unfold visB at h
  simp only [Bool.and_eq_true, decide_eq_true_eq] at h
  obtain ⟨⟨⟨h1, h2⟩, h3⟩, h4⟩ := h
  refine ⟨by rw [ok.N]; exact h1, ?_, beq_eq_false_iff_ne.mpr h3, beq_eq_false_iff_ne.mpr h4⟩
  unfold Vis
  rw [ok.sc]
  split at h2
  · rename_i e; exact .inl e
  · rename_i e; exact .inr (.inl e)
  · rename_i e; exact .inr (.inr e)
  · cases h2
theorem Ok.sto (ok : Ok X c κ q n) {i : Nat} {x : Str} (h : stoB c i x = true) : X.N[i]? = some x ∧ L2.Loc X.env.scope x ∧ (X.fn x = true ∨ X.env.scope.names.lookup x = some .local) := by
  unfold stoB at h
  simp only [Bool.and_eq_true, decide_eq_true_eq] at h
  obtain ⟨h1, h2⟩ := h
  refine ⟨by rw [ok.N]; exact h1, ?_⟩
  unfold L2.Loc
  rw [ok.sc, ok.fn]
  split at h2
  · rename_i e; exact ⟨.inl e, .inr e⟩
  · rename_i e; exact ⟨.inr e, .inl h2⟩
  · cases h2
theorem Ok.glb (ok : Ok X c κ q n) {x : Str} (h : glbB c x = true) : Gl X x ∧ (x == ("__debug__" : Str)) = false ∧ x ≠ "__name__" := by
  unfold glbB at h
  simp only [Bool.and_eq_true, decide_eq_true_eq] at h
  refine ⟨?_, beq_eq_false_iff_ne.mpr h.1.2, h.2⟩
  unfold Gl Env.kindOf
  rw [ok.sc]
  exact h.1.1
theorem pg_nms (ok : Ok X c κ q n) : ∀ {is : List Nat} {es : List Expr}, chkNm c is es = true → PGs X es (gNames is) ∧ (assignEach es X.env).length = is.length ∧ (assignEach es X.env).findIdx? (·.1) = none
  | [], [], _ => ⟨pgs_nil, rfl, rfl⟩
  | i :: is, e :: es, h => by
    cases e with
    | Name x p =>
      simp only [chkNm, Bool.and_eq_true] at h
      obtain ⟨h1, h2, h3⟩ := ok.sto h.1
      obtain ⟨g1, g2, g3⟩ := pg_nms ok h.2
      have hs : assignEach (.Name x p :: es) X.env = (false, assign (.Name x p) X.env) :: assignEach es X.env := by rfl
      refine ⟨pgs_cons (pg_name ok.nd h1 h2 h3) g1, by rw [hs, List.length_cons, g2]; rfl, ?_⟩
      rw [hs, List.findIdx?_cons]
      simp [g3]
    | _ => simp [chkNm] at h
  | [], _ :: _, h => by simp [chkNm] at h
  | _ :: _, [], h => by simp [chkNm] at h
theorem pg_tg (ok : Ok X c κ q n) (hc : X.calm = true) {tg : Tg} {e : Expr} (h : chkTg c tg e = true) : PG X e (gTgt κ.K tg) := by
  cases tg with
  | one i =>
    cases e with
    | Name x p =>
      obtain ⟨h1, h2, h3⟩ := ok.sto (show stoB c i x = true from h)
      exact pg_name ok.nd h1 h2 h3
    | _ => simp [chkTg] at h
  | tup is =>
    cases e with
    | Tuple es k p =>
      obtain ⟨g1, g2, g3⟩ := pg_nms ok (show chkNm c is es = true from h)
      have := pg_tup (pos := p) (k := k) hc g1 g2 g3
      rw [ok.K] at this
      exact this
    | _ => simp [chkTg] at h
/-- a comprehension's block -/
theorem Ok.blk (ok : Ok X c κ q n) (s : Shared) (H : Hp) (scope : Scope) (cl : List (Str × Addr)) (C : Addr) (fp : List Addr) : Ok (X.blk s H scope (compEnvC scope cl C X.env) fp) (c.block scope) κ q n := by
  refine ⟨?_, ok.N, ok.nd, fun x => rfl, ok.K, ok.units, ok.calm, ok.facts⟩
  show relabel scope X.env = relS scope c.sc
  rw [← ok.sc]
  rfl
end
end MI

set_option Elab.async false
set_option linter.all false
set_option maxRecDepth 100000
/-! MIp: what is checked runs as the small language says: expressions, the proof. -/
namespace MI
open PySem PySem.Spec PyProof.Rows L2
section
variable {X : Cx} {c : Cfg} {κ : KK} {q : Nmz} {n : Nat}
theorem chkL_plain : ∀ {xs : CL} {es : List Expr}, chkL q c xs es = true → ∀ e ∈ es, plainX e = true
  | .nil, [], _ => by simp
  | .cons a r, e :: es, h => by
    simp only [chkL, Bool.and_eq_true] at h
    intro e' he
    rcases List.mem_cons.mp he with rfl | he
    · exact h.1
    · exact chkL_plain h.2.2 e' he
  | .nil, _ :: _, h => by simp [chkL] at h
  | .cons _ _, [], h => by simp [chkL] at h
theorem callN_len {T : Prg} {n f : Nat} {fi : FnI} {ds : List D} {M : Sto} {ι : List Addr} {H : Hp} {Q : VK} {E : XK} (hf : T.fn f = some fi) (h : post κ (RV κ) ι H (callN T n f ds M) Q E) : ds.length = fi.ps.length := by
  cases n with
  | zero => unfold callN at h; exact h.elim
  | succ n =>
    unfold callN at h
    obtain ⟨fi', e, h⟩ := post_ofO h
    rw [hf] at e; cases e
    exact (post_ite h).1
/-- f(..), f a def -/
theorem de_call (ok : Ok X c κ q n) (hc : c.calm = true) {f : Nat} {x : Str} {p pos : Pos} {e : Expr} {es : List Expr} {ev : Env → Sto → Res (List D)} (hf : (q.T.fn f).map (·.name) = some x) (hg : glbB c x = true) (hp : ∀ e' ∈ e :: es, plainX e' = true)
    (ha : ∀ W, Takes X W → PA X (e :: es) (tAH κ W ev)) : DE X κ (.Call (.Name x p) (e :: es) [] pos) (fun σ M => (ev σ M).bind fun ds M1 => callN q.T n f ds M1) := by
  intro W tk
  obtain ⟨g1, g2, g3⟩ := ok.glb hg
  obtain ⟨fi, hfi, hx⟩ := Option.map_eq_some_iff.mp hf
  subst hx
  obtain ⟨a, fd, h1, h2, h3, h4⟩ := ok.facts.fn f fi hfi
  obtain ⟨hcalm, hroom⟩ := ok.calm hc
  rw [← ok.K] at h2 h3 h4
  refine PE.imp (pe_callS h4 hroom g1 h1 h2 h3 (fun σ => passAt tk σ) (ha W tk) g2 (plain_star (hp e List.mem_cons_self) es) (plains_star (fun e' he => hp e' (List.mem_cons_of_mem _ he)) pos).1) ?_
  rintro σV H Q ⟨ι, σ, M, hs, m, h⟩
  refine ⟨ι, σ, M, hs, m, post_mono (post_bind (R1 := RL κ) mono_RV h) fun vs H1 h1 => ?_⟩
  obtain ⟨ι1, ds, M1, x1, m1, r1, h1⟩ := h1
  exact ⟨by rw [← Reps.length r1]; exact callN_len hfi h1, ι1, ds, M1, r1, m1, h1⟩
theorem de_call0 (ok : Ok X c κ q n) (hc : c.calm = true) {f : Nat} {x : Str} {p pos : Pos} (hf : (q.T.fn f).map (·.name) = some x) (hg : glbB c x = true) : DE X κ (.Call (.Name x p) [] [] pos) (fun σ M => callN q.T n f [] M) := by
  intro W tk
  obtain ⟨g1, g2, g3⟩ := ok.glb hg
  obtain ⟨fi, hfi, hx⟩ := Option.map_eq_some_iff.mp hf
  subst hx
  obtain ⟨a, fd, h1, h2, h3, h4⟩ := ok.facts.fn f fi hfi
  obtain ⟨hcalm, hroom⟩ := ok.calm hc
  rw [← ok.K] at h2 h3 h4
  refine ⟨fun pins s σV H Q I h => ?_⟩
  obtain ⟨ι, σ, M, hs, m, h⟩ := h
  refine wpAny_Call_Name_kw (ld_glob I g1 h1 ?_ g2)
  exact PySem.W.callWith_K0 I.kIn h2 (run_fnS (us := []) (vs := []) (E := WE W) h4 hroom h3 (passAt tk σV) I .nil ⟨callN_len hfi h, ι, [], M, Reps.nil, m, h⟩)
/-- built-ins by their names -/
theorem pe_callBI (hc : X.calm = true) (b : BI) {e : Expr} {es : List Expr} {t : TA} {p pos : Pos} (g1 : Gl X b.nm) (g2 : (b.nm == ("__debug__" : Str)) = false) (g3 : b.nm ≠ "__name__") (hm : X.mg b.nm = none) (ha : PA X (e :: es) t)
    (he : starEach (e :: es) X.env = (false, eval e X.env) :: starEach es X.env) (hpl : (backTo pos (starEach es X.env)).any (·.1) = false) : PE X (.Call (.Name b.nm p) (e :: es) [] pos) (tCB (rBi X.K b) t) := by
  have hv := b.boot
  have hr := callr_bi (X := X) hc b
  cases b <;> first
    | exact pe_callB hr g1 hm hv ha g3 g2 he hpl
    | exact pe_callTy hr g1 hm hv ha g3 g2 he hpl
theorem de_bi (ok : Ok X c κ q n) (hc : c.calm = true) {b : BI} (hb : okBI b = true) {p pos : Pos} {e : Expr} {es : List Expr} {ev : Env → Sto → Res (List D)} (hg : glbB c b.nm = true) (hp : ∀ e' ∈ e :: es, plainX e' = true)
    (ha : ∀ W, Takes X W → PA X (e :: es) (tAA κ W ev)) : DE X κ (.Call (.Name b.nm p) (e :: es) [] pos) (fun σ M => (ev σ M).bind fun ds M1 => bi b ds M1) := by
  intro W tk
  obtain ⟨g1, g2, g3⟩ := ok.glb hg
  obtain ⟨hcalm, hroom⟩ := ok.calm hc
  refine PE.imp (pe_callBI hcalm b g1 g2 g3 (ok.facts.bi b) (ha W tk) (plain_star (hp e List.mem_cons_self) es) (plains_star (fun e' he => hp e' (List.mem_cons_of_mem _ he)) pos).1) ?_
  rintro σV H Q ⟨ι, σ, M, hs, m, h⟩
  refine ⟨ι, σ, M, hs, m, post_mono (post_bind (R1 := RLA κ) mono_RV h) fun vs H1 h1 => ?_⟩
  obtain ⟨ι1, ds, M1, x1, m1, r1, h1⟩ := h1
  rw [ok.K]
  exact bi_rep b hb m1 r1 h1
theorem keysO : ∀ {xs : List D} {vs : List V} {ι : List Addr} {H : Hp}, xs.all keyOk = true → Reps κ ι H xs vs → ∃ ks : List Key, xs = ks.map keyD ∧ vs = ks.map kV := fun h r => keysD_of h r
theorem addU_D (L : List Key) (k : Key) : (addU L k).map keyD = if ((L.map keyD).any fun z => deq z (keyD k)) = true then L.map keyD else L.map keyD ++ [keyD k] := by
  have e : ((L.map keyD).any fun z => deq z (keyD k)) = true ↔ k ∈ L := by
    rw [List.any_map, List.any_eq_true]
    constructor
    · rintro ⟨z, hz, q⟩
      have q' : deq (keyD z) (keyD k) = true := q
      rw [deq_key] at q'
      rw [← of_decide_eq_true q']; exact hz
    · intro h
      exact ⟨k, h, by show deq (keyD k) (keyD k) = true; rw [deq_key]; simp⟩
  unfold addU
  by_cases h : k ∈ L
  · rw [if_pos h, if_pos (e.mpr h)]
  · rw [if_neg h, if_neg (fun q => h (e.mp q)), List.map_append]; rfl
theorem dedU_D (ks : List Key) : dedD (ks.map keyD) = (dedU ks).map keyD := by
  have : ∀ (ks L : List Key), (ks.map keyD).foldl (fun l x => if (l.any fun z => deq z x) = true then l else l ++ [x]) (L.map keyD) = (ks.foldl addU L).map keyD := by
    intro ks
    induction ks with
    | nil => intro L; rfl
    | cons k ks ih =>
      intro L
      rw [List.map_cons, List.foldl_cons, List.foldl_cons, ← ih, addU_D]
  exact this ks []
theorem pd_key (k : Key) : pd (keyD k) = kD k := by
  cases k <;> simp [pd, keyD, kD]
theorem sortK_D (ks : List Key) : sortD (ks.map keyD) = (sortK ks).map keyD := by
  unfold sortD sortK
  refine (List.map_mergeSort fun a _ b _ => ?_).symm
  show PySem.W.sortLe _ _ _ _ _ = PySem.W.sortLe _ _ _ _ _
  unfold PySem.W.sortLe
  simp only [pd_key]
theorem like_of {ks : List Key} (h : (ks.map keyD).all isI = true ∨ (ks.map keyD).all isS = true) : KLike ks := by
  refine h.imp (fun h k hk => ?_) (fun h k hk => ?_)
  · have h1 := List.all_eq_true.mp h (keyD k) (List.mem_map.mpr ⟨k, hk, rfl⟩)
    cases k with
    | inl i => exact ⟨i, rfl⟩
    | inr x => cases h1
  · have h1 := List.all_eq_true.mp h (keyD k) (List.mem_map.mpr ⟨k, hk, rfl⟩)
    cases k with
    | inl i => cases h1
    | inr x => exact ⟨x, rfl⟩
theorem keyOk_like {xs : List D} (h : xs.all isI = true ∨ xs.all isS = true) : xs.all keyOk = true := by
  rcases h with h | h <;> refine List.all_eq_true.mpr fun x hx => ?_
  · have := List.all_eq_true.mp h x hx; cases x <;> first | rfl | cases this
  · have := List.all_eq_true.mp h x hx; cases x <;> first | rfl | cases this
theorem reps_keys {ι : List Addr} {H : Hp} : ∀ ks : List Key, Reps κ ι H (ks.map keyD) (ks.map kV)
  | [] => Reps.nil
  | k :: ks => Reps.cons (by
      cases k with
      | inl i => exact ⟨rep_int i, rfl⟩
      | inr x =>
        refine ⟨?_, rfl⟩
        show Rep κ ι H (.str x.cps.toList) (.str x)
        simp [Rep]) (reps_keys ks)
theorem de_lenset (ok : Ok X c κ q n) (hc : c.calm = true) {p p2 pos pos2 : Pos} {e : Expr} {ev : Env → Sto → Res (List D)} (hg : glbB c "len" = true) (hg2 : glbB c "set" = true) (hp : plainX e = true) (ha : ∀ W, Takes X W → PA X [e] (tAA κ W ev)) :
    DE X κ (.Call (.Name "len" p) [.Call (.Name "set" p2) [e] [] pos2] [] pos) (fun σ M => (ev σ M).bind fun ds M1 => bi .lenset ds M1) := by
  intro W tk
  obtain ⟨g1, g2, g3⟩ := ok.glb hg
  obtain ⟨k1, k2, k3⟩ := ok.glb hg2
  obtain ⟨hcalm, hroom⟩ := ok.calm hc
  refine PE.imp (pe_lenSetK hcalm g1 (ok.facts.bi .len) k1 ok.facts.set (ha W tk) (plain_star hp _)) ?_
  rintro σV H Q ⟨ι, σ, M, hs, m, h⟩
  refine ⟨ι, σ, M, hs, m, post_mono (post_bind (R1 := RLA κ) mono_RV h) fun us H1 h1 => ?_⟩
  obtain ⟨ι1, ds, M1, x1, m1, r1, h1⟩ := h1
  have he : ∃ d, ds = [d] := by
    rcases ds with _ | ⟨d, _ | ⟨d2, r⟩⟩
    · unfold bi at h1; exact h1.elim
    · exact ⟨d, rfl⟩
    · unfold bi at h1; exact h1.elim
  obtain ⟨d, rfl⟩ := he
  obtain ⟨v, u, rfl, r1, hu⟩ := r1
  cases (show u = [] from hu)
  unfold bi at h1
  obtain ⟨xs, ex, h1⟩ := post_ofO h1
  obtain ⟨⟨hk, hl⟩, h1⟩ := post_ite h1
  obtain ⟨a, vs, rfl, s1, r2⟩ := lstItems_rep m1 ex r1
  obtain ⟨ks, rfl, rfl⟩ := keysO hk r2
  rw [ok.K]
  refine ⟨a, ks, rfl, s1, by simpa using hl, ?_⟩
  have z := post_val h1 m1 (rep_int _) trivial
  rw [dedU_D, List.length_map] at z
  exact z
theorem de_sortset (ok : Ok X c κ q n) (hc : c.calm = true) {p p2 pos pos2 : Pos} {e : Expr} {ev : Env → Sto → Res (List D)} (hg : glbB c "sorted" = true) (hg2 : glbB c "set" = true) (hp : plainX e = true) (ha : ∀ W, Takes X W → PA X [e] (tAA κ W ev)) :
    DE X κ (.Call (.Name "sorted" p) [.Call (.Name "set" p2) [e] [] pos2] [] pos) (fun σ M => (ev σ M).bind fun ds M1 => bi .sortset ds M1) := by
  intro W tk
  obtain ⟨g1, g2, g3⟩ := ok.glb hg
  obtain ⟨k1, k2, k3⟩ := ok.glb hg2
  obtain ⟨hcalm, hroom⟩ := ok.calm hc
  refine PE.imp (pe_sortSet ok.units hcalm g1 (ok.facts.bi .sorted) k1 ok.facts.set (ha W tk) (plain_star hp _)) ?_
  rintro σV H Q ⟨ι, σ, M, hs, m, h⟩
  refine ⟨ι, σ, M, hs, m, post_mono (post_bind (R1 := RLA κ) mono_RV h) fun us H1 h1 => ?_⟩
  obtain ⟨ι1, ds, M1, x1, m1, r1, h1⟩ := h1
  have he : ∃ d, ds = [d] := by
    rcases ds with _ | ⟨d, _ | ⟨d2, r⟩⟩
    · unfold bi at h1; exact h1.elim
    · exact ⟨d, rfl⟩
    · unfold bi at h1; exact h1.elim
  obtain ⟨d, rfl⟩ := he
  obtain ⟨v, u, rfl, r1, hu⟩ := r1
  cases (show u = [] from hu)
  unfold bi at h1
  obtain ⟨xs, ex, h1⟩ := post_ofO h1
  obtain ⟨⟨hk, hl⟩, h1⟩ := post_ite h1
  obtain ⟨a, vs, rfl, s1, r2⟩ := lstItems_rep m1 ex r1
  obtain ⟨ks, rfl, rfl⟩ := keysO (keyOk_like hk) r2
  rw [ok.K]
  refine ⟨a, ks, rfl, s1, like_of hk, by simpa using hl, ?_⟩
  rw [dedU_D, sortK_D] at h1
  exact post_lst h1 m1 (reps_keys _)
theorem BM.pa (m : BM) : PlainAttrs m.ty.nm := by
  cases m <;> first | exact PySem.F.plainAttrs_list | exact PySem.F.plainAttrs_str | exact PySem.F.plainAttrs_dict
theorem BM.slot (m : BM) (h : okBM m = true) : Slot m.ty.nm m.nm m.id := by
  cases m <;> first | (simp [okBM] at h; done) | exact PySem.F.slot_list_append | exact PySem.F.slot_list_count | exact PySem.F.slot_dict_get
theorem BM.hty (m : BM) (h : okBM m = true) : typeOf (.builtin m.id) = pure (.type "method_descriptor") := by
  cases m <;> first | (simp [okBM] at h; done) | exact PySem.F.type_list_append | exact PySem.F.type_list_count | exact PySem.F.type_dict_get
theorem de_me (ok : Ok X c κ q n) (hc : c.calm = true) {b : BM} (hb : okBM b = true) {apos cpos : Pos} {o e : Expr} {es : List Expr} {eo : Env → Sto → Res D} {ev : Env → Sto → Res (List D)} (hl : okPos apos cpos = true) (hn : (e :: es).length < 29) (po : plainX o = true) (hp : ∀ e' ∈ e :: es, plainX e' = true)
    (ho : DE X κ o eo) (ha : ∀ W, Takes X W → PA X (e :: es) (tAH κ W ev)) :
    DE X κ (.Call (.Attribute o b.nm apos) (e :: es) [] cpos) (fun σ M => (eo σ M).bind fun x M1 => if isMT b.ty x M1 = true then (ev σ M1).bind fun ds M2 => meth b x ds M2 else .stuck) := by
  intro W tk
  obtain ⟨hcalm, hroom⟩ := ok.calm hc
  have hs := plain_star (env := X.env) (hp e List.mem_cons_self) es
  have hst := plains_star (env := X.env) (es := e :: es) hp cpos
  refine PE.imp (pe_bm b.pa (b.slot hb) (b.hty hb) (mtr_me (Nat.lt_of_le_of_lt (by omega) ok.units) hcalm b) (ho W tk) (ha W tk) (plain_base po _) ?_ hl hs (plains_star (fun e' he => hp e' (List.mem_cons_of_mem _ he)) cpos).1) ?_
  · rw [hst.2, Bool.true_and, Bool.and_eq_true]
    refine ⟨rfl, decide_eq_true ?_⟩
    show (e :: es).length + 0 + 0 < 30
    omega
  · rintro σV H Q ⟨ι, σ, M, hs', m, h⟩
    refine ⟨ι, σ, M, hs', m, post_mono (post_bind (R1 := RV κ) mono_RV h) fun v H1 h1 => ?_⟩
    obtain ⟨ι1, d, M1, x1, m1, r1, h1⟩ := h1
    obtain ⟨ht, h1⟩ := post_ite h1
    rw [ok.K]
    refine ⟨isMT_rep m1 ht r1.1, ι1, σ, M1, hs'.mono x1, m1, post_mono (post_bind (R1 := RL κ) mono_RV h1) fun vs H2 h2 => ?_⟩
    obtain ⟨ι2, ds, M2, x2, m2, r2, h2⟩ := h2
    exact me_rep b m2 (Rep.mono x2 _ _ r1.1) r2 h2
theorem de_me0 (ok : Ok X c κ q n) (hc : c.calm = true) {b : BM} (hb : okBM b = true) {apos cpos : Pos} {o : Expr} {eo : Env → Sto → Res D} (hl : okPos apos cpos = true) (po : plainX o = true) (ho : DE X κ o eo) :
    DE X κ (.Call (.Attribute o b.nm apos) [] [] cpos) (fun σ M => (eo σ M).bind fun x M1 => if isMT b.ty x M1 = true then meth b x [] M1 else .stuck) := by
  intro W tk
  obtain ⟨hcalm, hroom⟩ := ok.calm hc
  refine PE.imp (pe_bm0 b.pa (b.slot hb) (b.hty hb) (mtr_me (Nat.lt_of_le_of_lt (by omega) ok.units) hcalm b) (ho W tk) (plain_base po _) hl) ?_
  rintro σV H Q ⟨ι, σ, M, hs', m, h⟩
  refine ⟨ι, σ, M, hs', m, post_mono (post_bind (R1 := RV κ) mono_RV h) fun v H1 h1 => ?_⟩
  obtain ⟨ι1, d, M1, x1, m1, r1, h1⟩ := h1
  obtain ⟨ht, h1⟩ := post_ite h1
  rw [ok.K]
  exact ⟨isMT_rep m1 ht r1.1, me_rep b m1 r1.1 Reps.nil h1⟩
theorem Ty.boot (t : Ty) : bootBuiltins (Str.ofString t.ty) = some (.type t.ty) := by cases t <;> decide +kernel
theorem de_isi (ok : Ok X c κ q n) {t : Ty} {e : Expr} {p p2 pos : Pos} {ea : Env → Sto → Res D} (hg : glbB c "isinstance" = true) (hg2 : glbB c (Str.ofString t.ty) = true) (hp : plainX e = true) (ha : DE X κ e ea) :
    DE X κ (.Call (.Name "isinstance" p) [e, .Name (Str.ofString t.ty) p2] [] pos) (fun σ M => (ea σ M).bind fun x M1 => ofO (isTy M1 t x) fun b => .ok (.bl b) M1) := by
  intro W tk
  obtain ⟨g1, g2, g3⟩ := ok.glb hg
  obtain ⟨k1, k2, k3⟩ := ok.glb hg2
  have hty : PE X (.Name (Str.ofString t.ty) p2) (tC (.ty t.ty)) := pe_bltn k1 (ok.facts.ty t) t.boot rfl k3 k2
  have hA : PA X [e, .Name (Str.ofString t.ty) p2] _ := pa_cons (ha W tk) (pa_cons hty pa_nil) (plain_star hp _)
  refine PE.imp (pe_callB call_isi g1 ok.facts.isi (by decide +kernel) hA g3 g2 (plain_star hp _) rfl) ?_
  rintro σV H Q ⟨ι, σ, M, hs, m, h⟩
  refine ⟨ι, σ, M, hs, m, post_mono (post_bind (R1 := RV κ) mono_RV h) fun v H1 h1 => ?_⟩
  obtain ⟨ι1, d, M1, x1, m1, r1, h1⟩ := h1
  obtain ⟨b, eb, h1⟩ := post_ofO h1
  obtain ⟨u, t1, t2⟩ := isTy_rep m1 eb r1.1
  rw [ok.K]
  exact ⟨v, .ty t.ty, u, .type t.ty, b, rfl, .ty _, t1, t2, post_val h1 m1 (rep_bl b) trivial⟩
end
end MI

set_option Elab.async false
set_option linter.all false
set_option maxRecDepth 100000
/-! MIq: what is checked runs as the small language says: expressions, the induction. -/
namespace MI
open PySem PySem.Spec PyProof.Rows L2
theorem PI.imp {X : Cx} {tg it : Expr} {t t' : TI} (h : PI X tg it t) (w : ∀ σ H Q, t' σ H Q → t σ H Q) : PI X tg it t' := ⟨fun pins s σ H R I q => h.run pins s σ H R I (w σ H R q)⟩
theorem PTs.imp {X : Cx} {e : List Expr} {t t' : TT} (h : PTs X e t) (w : ∀ σ H Q, t' σ H Q → t σ H Q) : PTs X e t' := ⟨fun pins s σ H Q I q => h.run pins s σ H Q I (w σ H Q q)⟩
/-- a test by its value -/
theorem dt_val {X : Cx} {κ : KK} {e : Expr} {ev : Env → Sto → Res D} (h : DE X κ e ev) (he : ∀ whole, isTrue e X.env whole = (do let v ← whole; standAt e.pos; holding [v] (truthy v))) : DT X κ e ev := fun W tk => PT.imp (pt_val (h W tk) he) fun σ H Q q => imp_tB σ H Q q
theorem lc_own (N : List Str) (own : List Nat) : (ownOf N own).map (·.2) = own := by
  unfold ownOf; rw [List.map_map]; simp [Function.comp_def]
/-- a slice's part -/
def REq {α : Type} : RR α α := fun _ _ _ a b => a = b
theorem mono_REq {α : Type} : Mono (REq (α := α)) := fun _ _ _ _ _ _ _ _ _ h => h
def tPt (K : KK) (W : WX) (ev : Env → Sto → Res (Option Int)) : TO := fun σV H Q => ∃ ι σ M, RelS K ι H σ σV ∧ RelM K ι H M ∧ post K REq ι H (ev σ M) Q (fun cl d H' => W cl d σV H')
theorem po_nopt {X : Cx} {κ : KK} {W : WX} : PO X none (tPt κ W (if false = true then fun σ M => .stuck else fun _ M => .ok none M)) := by
  refine ⟨fun pins s σV H Q I h => po_none.run pins s σV H Q I ?_⟩
  obtain ⟨ι, σ, M, hs, m, h⟩ := h
  exact h ι H none (Ext.refl _ _) m rfl
theorem po_pt {X : Cx} {κ : KK} {W : WX} {e : Expr} {ev : Env → Sto → Res D} (h : PE X e (tE κ W ev)) : PO X (some e) (tPt κ W fun σ M => (ev σ M).bind asPart) := by
  refine ⟨fun pins s σV H Q I hh => (po_some h).run pins s σV H Q I ?_⟩
  obtain ⟨ι, σ, M, hs, m, hh⟩ := hh
  refine ⟨ι, σ, M, hs, m, post_mono (post_bind (R1 := RV κ) mono_REq hh) fun x H1 q1 => ?_⟩
  obtain ⟨ι1, d, M1, x1, m1, r1, q1⟩ := q1
  cases d with
  | int i =>
    have r1' := r1.1
    simp only [Rep] at r1'
    subst r1'
    exact ⟨i, rfl, q1 ι1 H1 _ (Ext.refl _ _) m1 rfl⟩
  | _ => exact q1.elim
/-- a chain of and, or as a test does not ask its whole -/
theorem pw_of {X : Cx} {op : BoolOp} {vs : List Expr} {p : Pos} {t : TT} (h : PT X (.BoolOp op vs p) t) : PW X (.BoolOp op vs p) t := ⟨fun whole pins s σ H Q I q => h.run pins s σ H Q I q⟩
theorem ifs_nil {cond : C} (h : (match cond with
    | .bl true => true
    | _ => false) = true) : cond = .bl true := by
  cases cond <;> first | exact Bool.noConfusion (show false = true from h) | skip
  rename_i b
  cases b <;> first | exact Bool.noConfusion (show false = true from h) | rfl
section
variable {κ : KK} {q : Nmz} {n : Nat}
set_option maxHeartbeats 8000000 in
mutual
theorem soundE : ∀ (a : C) (e : Expr) (c : Cfg) (X : Cx), Ok X c κ q n → chkE q c a e = true → DE X κ e (evE (orc q.T n) none a)
  | .var i, e, c, X, ok, h => by
    cases e <;> first | exact Bool.noConfusion (show false = true from h) | skip
    obtain ⟨h1, h2, h3, h4⟩ := ok.vis (show visB c i _ = true from h)
    intro W tk
    refine PE.imp (pe_var h1 h2 h3 h4) ?_
    rintro σV H Q ⟨ι, σ, M, hs, m, h⟩
    unfold evE at h
    cases e : σ[i]? with
    | none => rw [e] at h; exact h.elim
    | some o =>
      cases o with
      | none => rw [e] at h; exact h.elim
      | some d =>
        rw [e, getV_some] at h
        obtain ⟨hd, v, ev, r⟩ := hs.2 _ _ e
        exact ⟨v, ev, post_val h m r (fresh_homed hd)⟩
  | .int i, e, c, X, ok, h => by
    cases e <;> first | exact Bool.noConfusion (show false = true from h) | skip
    rename_i k _ _
    cases k <;> first | exact Bool.noConfusion (show false = true from h) | skip
    cases (of_decide_eq_true (show decide (i = _) = true from h))
    intro W tk
    refine PE.imp pe_int ?_
    rintro σV H Q ⟨ι, σ, M, hs, m, h⟩
    unfold evE at h
    exact post_val h m (rep_int _) trivial
  | .str s, e, c, X, ok, h => by
    cases e <;> first | exact Bool.noConfusion (show false = true from h) | skip
    rename_i k _ _
    cases k <;> first | exact Bool.noConfusion (show false = true from h) | skip
    cases (of_decide_eq_true (show decide (_ = _) = true from h))
    intro W tk
    refine PE.imp pe_str ?_
    rintro σV H Q ⟨ι, σ, M, hs, m, h⟩
    unfold evE at h
    exact post_val h m (rep_str _) trivial
  | .bl b, e, c, X, ok, h => by
    cases e <;> first | exact Bool.noConfusion (show false = true from h) | skip
    rename_i k _ _
    cases k <;> first | exact Bool.noConfusion (show false = true from h) | skip
    cases (beq_iff_eq.mp (show (b == _) = true from h))
    intro W tk
    refine PE.imp pe_bl ?_
    rintro σV H Q ⟨ι, σ, M, hs, m, h⟩
    unfold evE at h
    exact post_val h m (rep_bl _) trivial
  | .non, e, c, X, ok, h => by
    cases e <;> first | exact Bool.noConfusion (show false = true from h) | skip
    rename_i k _ _
    cases k <;> first | exact Bool.noConfusion (show false = true from h) | skip
    intro W tk
    refine PE.imp pe_non ?_
    rintro σV H Q ⟨ι, σ, M, hs, m, h⟩
    unfold evE at h
    exact post_val h m rep_non trivial
  | .glob g, e, c, X, ok, h => by
    cases e <;> first | exact Bool.noConfusion (show false = true from h) | skip
    rename_i x p
    have h : (decide (q.gn g = some x) && glbB c x) = true := h
    simp only [Bool.and_eq_true, decide_eq_true_eq] at h
    obtain ⟨g1, g2, g3⟩ := ok.glb h.2
    intro W tk
    cases eg : q.T.glob g with
    | none =>
      refine ⟨fun pins s σV H Q I hh => ?_⟩
      obtain ⟨ι, σ, M, hs, m, hh⟩ := hh
      unfold evE at hh
      have hh : post κ (RV κ) ι H (ofO (q.T.glob g) fun d => .ok d M) Q _ := hh
      rw [eg] at hh
      exact hh.elim
    | some d =>
      obtain ⟨x', u, v, k1, k2, k3, k4, k5⟩ := ok.facts.glob g d eg
      rw [h.1] at k1; cases k1
      refine PE.imp (pe_glob g1 k2 k3 g2) ?_
      rintro σV H Q ⟨ι, σ, M, hs, m, hh⟩
      unfold evE at hh
      have hh : post κ (RV κ) ι H (ofO (q.T.glob g) fun d => .ok d M) Q _ := hh
      rw [eg] at hh
      exact post_val hh m (k5 ι H) (fresh_homed k4)
  | .bin op a b, e, c, X, ok, h => by
    cases e <;> first | exact Bool.noConfusion (show false = true from h) | skip
    rename_i l o r p
    have h : (decide (o = op.op) && (chkE q c a l && chkE q c b r)) = true := h
    simp only [Bool.and_eq_true, decide_eq_true_eq] at h
    obtain ⟨rfl, h1, h2⟩ := h
    intro W tk
    refine PE.imp (pe_op (opr_bin op) (soundE a l c X ok h1 W tk) (soundE b r c X ok h2 W tk)) fun σV H Q hh => ?_
    rw [ok.K]
    exact imp_op2 (ops_bin op) σV H Q (by simpa only [tE, evE] using hh)
  | .neg a, e, c, X, ok, h => by
    cases e <;> first | exact Bool.noConfusion (show false = true from h) | skip
    rename_i o l p
    cases o <;> first | exact Bool.noConfusion (show false = true from h) | skip
    intro W tk
    refine PE.imp (pe_un un_neg (soundE a l c X ok h W tk)) fun σV H Q hh => ?_
    refine imp_op1 (r := rU fun i => .int (-i)) (g := fun x M1 => onI x fun i => .ok (.int (-i)) M1) (fun ι H M x vx Q E m r hh => ?_) σV H Q (by simpa only [tE, evE] using hh)
    cases x with
    | int i =>
      simp only [Rep] at r; subst r
      exact ⟨i, rfl, post_val hh m (rep_int _) trivial⟩
    | _ => exact hh.elim
  | .cmp op a b, e, c, X, ok, h => by
    cases e <;> first | exact Bool.noConfusion (show false = true from h) | skip
    rename_i l os rs p
    match os, rs, h with
    | [o], [r], h =>
      have h : (decide (o = op.op) && (plainX r && (chkE q c a l && chkE q c b r))) = true := h
      simp only [Bool.and_eq_true, decide_eq_true_eq] at h
      obtain ⟨rfl, hp, h1, h2⟩ := h
      intro W tk
      refine PE.imp (pe_cmpR (opr_cmp ok.units op) (soundE a l c X ok h1 W tk) (soundE b r c X ok h2 W tk) (plain_in hp _)) fun σV H Q hh => ?_
      rw [ok.K]
      exact imp_op2 (ops_cmp op) σV H Q (by simpa only [tE, evE] using hh)
    | [], _, h => exact Bool.noConfusion (show false = true from h)
    | _ :: _ :: _, [], h => exact Bool.noConfusion (show false = true from h)
    | _ :: _ :: _, _ :: _, h => exact Bool.noConfusion (show false = true from h)
    | [_], [], h => exact Bool.noConfusion (show false = true from h)
    | [_], _ :: _ :: _, h => exact Bool.noConfusion (show false = true from h)
  | .cmp2 op1 op2 a b d, e, c, X, ok, h => by
    cases e <;> first | exact Bool.noConfusion (show false = true from h) | skip
    rename_i l os rs p
    match os, rs, h with
    | [o1, o2], [r, s], h =>
      have h : (decide (o1 = op1.op) && (decide (o2 = op2.op) && (plainX s && (chkE q c a l && (chkE q c b r && chkE q c d s))))) = true := h
      simp only [Bool.and_eq_true, decide_eq_true_eq] at h
      obtain ⟨rfl, rfl, hp, h1, h2, h3⟩ := h
      intro W tk
      refine PE.imp (pe_chain (opr_cmp ok.units op1) (opr_cmp ok.units op2) (soundE a l c X ok h1 W tk) (soundE b r c X ok h2 W tk) (soundE d s c X ok h3 W tk) (plain_in hp _)) fun σV H Q hh => ?_
      rw [ok.K]
      exact imp_chain (ops_cmp op1) (ops_cmp op2) σV H Q (by simpa only [tE, evE] using hh)
    | [], _, h => exact Bool.noConfusion (show false = true from h)
    | [_], [], h => exact Bool.noConfusion (show false = true from h)
    | [_], _ :: _, h => exact Bool.noConfusion (show false = true from h)
    | [_, _], [], h => exact Bool.noConfusion (show false = true from h)
    | [_, _], [_], h => exact Bool.noConfusion (show false = true from h)
    | [_, _], _ :: _ :: _ :: _, h => exact Bool.noConfusion (show false = true from h)
    | _ :: _ :: _ :: _, [], h => exact Bool.noConfusion (show false = true from h)
    | _ :: _ :: _ :: _, _ :: _, h => exact Bool.noConfusion (show false = true from h)
  | .and a b, e, c, X, ok, h => by
    cases e <;> first | exact Bool.noConfusion (show false = true from h) | skip
    rename_i o vs p
    cases o <;> first | exact Bool.noConfusion (show false = true from h) | skip
    match vs, h with
    | [l, r], h =>
      have h : (chkE q c a l && chkE q c b r) = true := h
      simp only [Bool.and_eq_true] at h
      intro W tk
      exact PE.imp (pe_and (soundE a l c X ok h.1 W tk) (pe_one (soundE b r c X ok h.2 W tk))) fun σV H Q hh => imp_and σV H Q (by simpa only [tE, evE] using hh)
    | l :: r :: r2 :: rest, h =>
      have h : (chkE q c a l && chkE q c b (.BoolOp .And (r :: r2 :: rest) p)) = true := h
      simp only [Bool.and_eq_true] at h
      intro W tk
      exact PE.imp (pe_and (soundE a l c X ok h.1 W tk) (soundE b _ c X ok h.2 W tk)) fun σV H Q hh => imp_and σV H Q (by simpa only [tE, evE] using hh)
    | [], h => exact Bool.noConfusion (show false = true from h)
    | [_], h => exact Bool.noConfusion (show false = true from h)
  | .or a b, e, c, X, ok, h => by
    cases e <;> first | exact Bool.noConfusion (show false = true from h) | skip
    rename_i o vs p
    cases o <;> first | exact Bool.noConfusion (show false = true from h) | skip
    match vs, h with
    | [l, r], h =>
      have h : (chkE q c a l && chkE q c b r) = true := h
      simp only [Bool.and_eq_true] at h
      intro W tk
      exact PE.imp (pe_or (soundE a l c X ok h.1 W tk) (pe_one (soundE b r c X ok h.2 W tk))) fun σV H Q hh => imp_or σV H Q (by simpa only [tE, evE] using hh)
    | l :: r :: r2 :: rest, h =>
      have h : (chkE q c a l && chkE q c b (.BoolOp .Or (r :: r2 :: rest) p)) = true := h
      simp only [Bool.and_eq_true] at h
      intro W tk
      exact PE.imp (pe_or (soundE a l c X ok h.1 W tk) (soundE b _ c X ok h.2 W tk)) fun σV H Q hh => imp_or σV H Q (by simpa only [tE, evE] using hh)
    | [], h => exact Bool.noConfusion (show false = true from h)
    | [_], h => exact Bool.noConfusion (show false = true from h)
  | .not a, e, c, X, ok, h => by
    cases e <;> first | exact Bool.noConfusion (show false = true from h) | skip
    rename_i o l p
    cases o <;> first | exact Bool.noConfusion (show false = true from h) | skip
    intro W tk
    exact PE.imp (pe_not (soundE a l c X ok h W tk)) fun σV H Q hh => imp_not σV H Q (by simpa only [tE, evE] using hh)
  | .tup xs, e, c, X, ok, h => by
    cases e <;> first | exact Bool.noConfusion (show false = true from h) | skip
    rename_i es k p
    intro W tk
    refine PE.imp (pe_tupF (soundH xs es c X ok h W tk)) ?_
    rintro σV H Q ⟨ι, σ, M, hs, m, hh⟩
    unfold evE at hh
    refine ⟨ι, σ, M, hs, m, post_mono (post_bind (R1 := RL κ) mono_RV hh) fun vs H1 h1 => ?_⟩
    obtain ⟨ι1, ds, M1, x1, m1, r1, h1⟩ := h1
    obtain ⟨hl, h1⟩ := post_lim h1
    exact ⟨by rw [← Reps.length r1]; exact hl, _, post_tupB h1 m1 r1⟩
  | .lst xs, e, c, X, ok, h => by
    cases e <;> first | exact Bool.noConfusion (show false = true from h) | skip
    rename_i es p
    intro W tk
    refine PE.imp (pe_lst (soundH xs es c X ok h W tk)) ?_
    rintro σV H Q ⟨ι, σ, M, hs, m, hh⟩
    unfold evE at hh
    refine ⟨ι, σ, M, hs, m, post_mono (post_bind (R1 := RL κ) mono_RV hh) fun vs H1 h1 => ?_⟩
    obtain ⟨ι1, ds, M1, x1, m1, r1, h1⟩ := h1
    obtain ⟨hl, h1⟩ := post_lim h1
    exact ⟨by rw [← Reps.length r1]; exact hl, post_lst h1 m1 r1⟩
  | .dic _ _, e, c, X, ok, h => by
    cases e <;> exact Bool.noConfusion (show false = true from h)
  | .ix a b, e, c, X, ok, h => by
    cases e <;> first | exact Bool.noConfusion (show false = true from h) | skip
    rename_i l r p
    have h : (plainX r && (chkE q c a l && chkE q c b r)) = true := h
    simp only [Bool.and_eq_true] at h
    obtain ⟨hp, h1, h2⟩ := h
    intro W tk
    refine PE.imp (pe_ix (ix_all (Nat.lt_of_le_of_lt (by omega) ok.units)) (soundE a l c X ok h1 W tk) (soundE b r c X ok h2 W tk) (plain_ix hp)) fun σV H Q hh => ?_
    rw [ok.K]
    exact imp_op2 ops_ix σV H Q (by simpa only [tE, evE] using hh)
  | .sl l h' a lo hi, e, c, X, ok, h => by
    cases e <;> first | exact Bool.noConfusion (show false = true from h) | skip
    rename_i v sl p
    cases sl <;> first | exact Bool.noConfusion (show false = true from h) | skip
    rename_i o1 o2 o3 p3
    cases o3 <;> first | exact Bool.noConfusion (show false = true from h) | skip
    have h : (chkE q c a v && ((match (generalizing := false) l, o1 with
      | false, none => true
      | true, some e1 => chkE q c lo e1
      | _, _ => false) && (match (generalizing := false) h', o2 with
      | false, none => true
      | true, some e2 => chkE q c hi e2
      | _, _ => false))) = true := h
    simp only [Bool.and_eq_true] at h
    obtain ⟨h1, h2, h3⟩ := h
    intro W tk
    have pl : PO X o1 (tPt κ W (if l = true then fun σ M => (evE (orc q.T n) none lo σ M).bind asPart else fun _ M => .ok none M)) := by
      cases l with
      | false =>
        cases o1 with
        | none => exact po_nopt
        | some e1 => simp at h2
      | true =>
        cases o1 with
        | none => simp at h2
        | some e1 => exact po_pt (soundE lo e1 c X ok h2 W tk)
    have ph : PO X o2 (tPt κ W (if h' = true then fun σ M => (evE (orc q.T n) none hi σ M).bind asPart else fun _ M => .ok none M)) := by
      cases h' with
      | false =>
        cases o2 with
        | none => exact po_nopt
        | some e1 => simp at h3
      | true =>
        cases o2 with
        | none => simp at h3
        | some e1 => exact po_pt (soundE hi e1 c X ok h3 W tk)
    refine PE.imp (pe_slice sl_all (soundE a v c X ok h1 W tk) pl ph) ?_
    rintro σV H Q ⟨ι, σ, M, hs, m, hh⟩
    unfold evE at hh
    refine ⟨ι, σ, M, hs, m, post_mono (post_bind (R1 := RV κ) mono_RV hh) fun x H1 q1 => ?_⟩
    obtain ⟨ι1, d, M1, x1, m1, r1, q1⟩ := q1
    have e1 : (if l = true then (evE (orc q.T n) none lo σ M1).bind asPart else .ok none M1) = (if l = true then fun σ M => (evE (orc q.T n) none lo σ M).bind asPart else fun _ M => .ok none M) σ M1 := by cases l <;> rfl
    rw [e1] at q1
    refine ⟨ι1, σ, M1, hs.mono x1, m1, post_mono (post_bind (R1 := REq) mono_RV q1) fun lo' H2 q2 => ?_⟩
    obtain ⟨ι2, d2, M2, x2, m2, r2, q2⟩ := q2
    have e2 : (if h' = true then (evE (orc q.T n) none hi σ M2).bind asPart else .ok none M2) = (if h' = true then fun σ M => (evE (orc q.T n) none hi σ M).bind asPart else fun _ M => .ok none M) σ M2 := by cases h' <;> rfl
    rw [e2] at q2
    refine ⟨ι2, σ, M2, (hs.mono x1).mono x2, m2, post_mono (post_bind (R1 := REq) mono_RV q2) fun hi' H3 q3 => ?_⟩
    obtain ⟨ι3, d3, M3, x3, m3, r3, q3⟩ := q3
    cases (show d2 = lo' from r2)
    cases (show d3 = hi' from r3)
    rw [ok.K]
    exact slop_rep m3 (Rep.mono (x2.trans x3) _ _ r1.1) q3
  | .rev a, e, c, X, ok, h => by
    cases e <;> first | exact Bool.noConfusion (show false = true from h) | skip
    rename_i v sl p
    cases sl <;> first | exact Bool.noConfusion (show false = true from h) | skip
    rename_i o1 o2 o3 p3
    match o1, o2, o3, h with
    | none, none, some (.UnaryOp .USub (.Constant (.int 1) k p1) p2), h =>
      intro W tk
      refine PE.imp (pe_revL (soundE a v c X ok h W tk)) ?_
      rintro σV H Q ⟨ι, σ, M, hs, m, hh⟩
      unfold evE at hh
      refine ⟨ι, σ, M, hs, m, post_mono (post_bind (R1 := RV κ) mono_RV hh) fun x H1 q1 => ?_⟩
      obtain ⟨ι1, d, M1, x1, m1, r1, q1⟩ := q1
      rw [ok.K]
      exact revop_rep m1 r1.1 q1
  | .comp e tg it cond own, ex, c, X, ok, h => by
    cases ex <;> first | exact Bool.noConfusion (show false = true from h) | skip
    rename_i elt gens scope p
    match gens, h with
    | [⟨t, iter, ifs, 0⟩], h =>
      have h : (c.calm && (blkC c.N c.sc scope (ownOf c.N own) && (inOwn own tg && (plainX iter && (chkI q c it t iter && (chkTg (c.block scope) tg t && ((match (generalizing := false) ifs with
        | [] => (match (generalizing := false) cond with
          | .bl true => true
          | _ => false)
        | [f] => chkE q (c.block scope) cond f
        | _ => false) && chkE q (c.block scope) e elt))))))) = true := h
      simp only [Bool.and_eq_true] at h
      obtain ⟨hc, hb, ho, hp, hi, ht, hif, he⟩ := h
      intro W tk
      obtain ⟨hcalm, hroom⟩ := ok.calm hc
      have hblk : BlkOk X.N X.env.scope scope (ownOf c.N own) := by rw [ok.N, ok.sc]; exact blkOk_by hb
      have hpt : ∀ (s : Shared) (H : Hp) (C : Addr) (cl : List (Str × Addr)) (fp : List Addr), PTs (X.blk s H scope (compEnvC scope cl C X.env) fp) ifs (tT κ (fun _ _ _ _ => False) (evE (orc q.T n) none cond)) := by
        intro s H C cl fp
        cases ifs with
        | nil =>
          have ec : cond = .bl true := ifs_nil hif
          rw [ec]
          refine PTs.imp pts_nil ?_
          rintro σV H Q ⟨ι, σ, M, hs, m, hh⟩
          unfold evE at hh
          exact hh ι H true (Ext.refl _ _) m rfl
        | cons f r =>
          cases r with
          | nil => exact pts_one (soundT cond f _ _ (ok.blk s H scope cl C fp) hif _ takes0)
          | cons g r => exact Bool.noConfusion (show false = true from hif)
      have L := pe_lc (pos := p) hcalm ok.nd (soundI it t iter c X ok hp hi W tk) hblk (fun s H C cl fp => pg_tg (ok.blk s H scope cl C fp) hcalm ht) hpt (fun s H C cl fp => soundE e elt _ _ (ok.blk s H scope cl C fp) he _ takes0) (plain_fold hp)
      rw [lc_own] at L
      refine PE.imp L fun σV H Q hh => ?_
      exact comp_imp ho σV Q (by simpa only [tE, evE] using hh)
  | .call f args, e, c, X, ok, h => by
    cases e <;> first | exact Bool.noConfusion (show false = true from h) | skip
    rename_i fn es kws p
    cases fn <;> first | exact Bool.noConfusion (show false = true from h) | skip
    rename_i x p2
    cases kws <;> first | exact Bool.noConfusion (show false = true from h) | skip
    have h : (c.calm && (decide ((q.T.fn f).map (·.name) = some x) && (glbB c x && chkL q c args es))) = true := h
    simp only [Bool.and_eq_true, decide_eq_true_eq] at h
    obtain ⟨hc, hf, hg, ha⟩ := h
    cases es with
    | nil =>
      cases args with
      | nil =>
        intro W tk
        exact PE.imp (de_call0 ok hc hf hg W tk) fun σV H Q hh => by have hh := hh; simp only [tE, evE, evH, bind_ok] at hh; exact hh
      | cons _ _ => simp [chkL] at ha
    | cons e es =>
      intro W tk
      exact PE.imp (de_call ok hc hf hg (chkL_plain ha) (soundH args _ c X ok ha) W tk) fun σV H Q hh => by have hh := hh; simp only [tE, evE] at hh; exact hh
  | .bi b args, e, c, X, ok, h => by
    cases b with
    | lenset =>
      have hA : ∀ es, chkL q c args es = true → ∀ W, Takes X W → PA X es (tAA κ W (evA (orc q.T n) none args)) := fun es h => soundA args es c X ok h
      rcases args with _ | ⟨a, _ | ⟨a2, r⟩⟩
      · cases e <;> first | exact Bool.noConfusion (show false = true from h) | skip
        rename_i fn es kws p
        cases fn <;> first | exact Bool.noConfusion (show false = true from h) | skip
        cases es <;> first | exact Bool.noConfusion (show false = true from h) | skip
        cases kws <;> exact Bool.noConfusion (show false = true from h)
      rotate_left
      · cases e <;> first | exact Bool.noConfusion (show false = true from h) | skip
        rename_i fn es kws p
        cases fn <;> first | exact Bool.noConfusion (show false = true from h) | skip
        cases es <;> first | exact Bool.noConfusion (show false = true from h) | skip
        cases kws <;> exact Bool.noConfusion (show false = true from h)
      cases e <;> first | exact Bool.noConfusion (show false = true from h) | skip
      rename_i fn es kws p
      cases fn <;> first | exact Bool.noConfusion (show false = true from h) | skip
      rename_i x p2
      cases es <;> first | exact Bool.noConfusion (show false = true from h) | skip
      rename_i e es
      cases kws <;> first | exact Bool.noConfusion (show false = true from h) | skip
      cases es <;> first | exact Bool.noConfusion (show false = true from h) | skip
      cases e <;> first | exact Bool.noConfusion (show false = true from h) | skip
      rename_i fn2 es2 kws2 pp
      cases fn2 <;> first | exact Bool.noConfusion (show false = true from h) | skip
      rename_i y p3
      cases es2 <;> first | exact Bool.noConfusion (show false = true from h) | skip
      rename_i e' es2
      cases es2 <;> first | exact Bool.noConfusion (show false = true from h) | skip
      cases kws2 <;> first | exact Bool.noConfusion (show false = true from h) | skip
      have h : (c.calm && (decide (x = "len") && (glbB c x && (decide (y = "set") && (glbB c y && (plainX e' && chkE q c a e')))))) = true := h
      simp only [Bool.and_eq_true, decide_eq_true_eq] at h
      obtain ⟨hc, rfl, hg, rfl, hg2, hp, ha⟩ := h
      intro W tk
      refine PE.imp (de_lenset ok hc hg hg2 hp (hA [e'] (by simp [chkL, hp, ha])) W tk) fun σV H Q hh => ?_
      simpa only [tE, evE] using hh
      all_goals simp [chkE, okBI] at h
    | sortset =>
      have hA : ∀ es, chkL q c args es = true → ∀ W, Takes X W → PA X es (tAA κ W (evA (orc q.T n) none args)) := fun es h => soundA args es c X ok h
      rcases args with _ | ⟨a, _ | ⟨a2, r⟩⟩
      · cases e <;> first | exact Bool.noConfusion (show false = true from h) | skip
        rename_i fn es kws p
        cases fn <;> first | exact Bool.noConfusion (show false = true from h) | skip
        cases es <;> first | exact Bool.noConfusion (show false = true from h) | skip
        cases kws <;> exact Bool.noConfusion (show false = true from h)
      rotate_left
      · cases e <;> first | exact Bool.noConfusion (show false = true from h) | skip
        rename_i fn es kws p
        cases fn <;> first | exact Bool.noConfusion (show false = true from h) | skip
        cases es <;> first | exact Bool.noConfusion (show false = true from h) | skip
        cases kws <;> exact Bool.noConfusion (show false = true from h)
      cases e <;> first | exact Bool.noConfusion (show false = true from h) | skip
      rename_i fn es kws p
      cases fn <;> first | exact Bool.noConfusion (show false = true from h) | skip
      rename_i x p2
      cases es <;> first | exact Bool.noConfusion (show false = true from h) | skip
      rename_i e es
      cases kws <;> first | exact Bool.noConfusion (show false = true from h) | skip
      cases es <;> first | exact Bool.noConfusion (show false = true from h) | skip
      cases e <;> first | exact Bool.noConfusion (show false = true from h) | skip
      rename_i fn2 es2 kws2 pp
      cases fn2 <;> first | exact Bool.noConfusion (show false = true from h) | skip
      rename_i y p3
      cases es2 <;> first | exact Bool.noConfusion (show false = true from h) | skip
      rename_i e' es2
      cases es2 <;> first | exact Bool.noConfusion (show false = true from h) | skip
      cases kws2 <;> first | exact Bool.noConfusion (show false = true from h) | skip
      have h : (c.calm && (decide (x = "sorted") && (glbB c x && (decide (y = "set") && (glbB c y && (plainX e' && chkE q c a e')))))) = true := h
      simp only [Bool.and_eq_true, decide_eq_true_eq] at h
      obtain ⟨hc, rfl, hg, rfl, hg2, hp, ha⟩ := h
      intro W tk
      refine PE.imp (de_sortset ok hc hg hg2 hp (hA [e'] (by simp [chkL, hp, ha])) W tk) fun σV H Q hh => ?_
      simpa only [tE, evE] using hh
      all_goals simp [chkE, okBI] at h
    | _ =>
      cases e <;> first | exact Bool.noConfusion (show false = true from h) | skip
      rename_i fn es kws p
      cases fn <;> first | exact Bool.noConfusion (show false = true from h) | skip
      rename_i x p2
      cases es <;> first | exact Bool.noConfusion (show false = true from h) | skip
      rename_i e es
      cases kws <;> first | exact Bool.noConfusion (show false = true from h) | skip
      have h : (true && c.calm && (decide (_ = x) && (glbB c x && chkL q c args (e :: es)))) = true := h
      simp only [Bool.and_eq_true, decide_eq_true_eq, Bool.true_and] at h
      obtain ⟨hc, rfl, hg, ha⟩ := h
      intro W tk
      exact PE.imp (de_bi ok hc rfl hg (chkL_plain ha) (soundA args _ c X ok ha) W tk) fun σV H Q hh => by simpa only [tE, evE] using hh
  | .meth m o args, e, c, X, ok, h => by
    cases e <;> first | exact Bool.noConfusion (show false = true from h) | skip
    rename_i fn es kws p
    cases fn <;> first | exact Bool.noConfusion (show false = true from h) | skip
    rename_i oe nm apos
    cases kws <;> first | exact Bool.noConfusion (show false = true from h) | skip
    have h : (c.calm && (decide (m.nm = nm) && (okBM m && (plainX oe && (okPos apos p && (decide (es.length < 29) && (chkE q c o oe && chkL q c args es))))))) = true := h
    simp only [Bool.and_eq_true, decide_eq_true_eq] at h
    obtain ⟨hc, rfl, hb, hp, hpos, hlen, h1, h2⟩ := h
    cases es with
    | nil =>
      cases args with
      | nil =>
        intro W tk
        exact PE.imp (de_me0 ok hc hb hpos hp (soundE o oe c X ok h1) W tk) fun σV H Q hh => by have hh := hh; simp only [tE, evE, evH, bind_ok] at hh; exact hh
      | cons _ _ => simp [chkL] at h2
    | cons e es =>
      intro W tk
      exact PE.imp (de_me ok hc hb hpos hlen hp (chkL_plain h2) (soundE o oe c X ok h1) (soundH args _ c X ok h2) W tk) fun σV H Q hh => by simpa only [tE, evE] using hh
  | .isi a t, e, c, X, ok, h => by
    cases e <;> first | exact Bool.noConfusion (show false = true from h) | skip
    rename_i fn es kws p
    cases fn <;> first | exact Bool.noConfusion (show false = true from h) | skip
    rename_i x p2
    match es, kws, h with
    | [e, .Name y p3], [], h =>
      have h : (decide (x = "isinstance") && (glbB c x && (decide (y = Str.ofString t.ty) && (glbB c y && (plainX e && chkE q c a e))))) = true := h
      simp only [Bool.and_eq_true, decide_eq_true_eq] at h
      obtain ⟨rfl, hg, rfl, hg2, hp, h1⟩ := h
      intro W tk
      exact PE.imp (de_isi ok hg hg2 hp (soundE a e c X ok h1) W tk) fun σV H Q hh => by simpa only [tE, evE] using hh
  | .fld _ _, e, c, X, ok, h => by
    cases e <;> exact Bool.noConfusion (show false = true from h)
  | .omth _ _ _, e, c, X, ok, h => by
    cases e <;> exact Bool.noConfusion (show false = true from h)
  | .new _ _, e, c, X, ok, h => by
    cases e <;> exact Bool.noConfusion (show false = true from h)
  | .exis _, e, c, X, ok, h => by
    cases e <;> exact Bool.noConfusion (show false = true from h)
  | .exfld _, e, c, X, ok, h => by
    cases e <;> exact Bool.noConfusion (show false = true from h)
  termination_by a => (sizeOf a, 0)
theorem soundT : ∀ (a : C) (e : Expr) (c : Cfg) (X : Cx), Ok X c κ q n → chkE q c a e = true → DT X κ e (evE (orc q.T n) none a)
  | .cmp op a b, e, c, X, ok, h => by
    cases e <;> first | exact Bool.noConfusion (show false = true from h) | skip
    rename_i l os rs p
    match os, rs, h with
    | [o], [r], h =>
      have h : (decide (o = op.op) && (plainX r && (chkE q c a l && chkE q c b r))) = true := h
      simp only [Bool.and_eq_true, decide_eq_true_eq] at h
      obtain ⟨rfl, hp, h1, h2⟩ := h
      intro W tk
      refine PT.imp (pt_cmpR (opr_cmp ok.units op) (soundE a l c X ok h1 W tk) (soundE b r c X ok h2 W tk) (plain_in hp _)) fun σV H Q hh => ?_
      have hh := imp_tB σV H Q hh
      rw [ok.K]
      exact imp_op2 (ops_cmp op) σV H _ (by simpa only [tE, evE] using hh)
    | [], _, h => exact Bool.noConfusion (show false = true from h)
    | _ :: _ :: _, [], h => exact Bool.noConfusion (show false = true from h)
    | _ :: _ :: _, _ :: _, h => exact Bool.noConfusion (show false = true from h)
    | [_], [], h => exact Bool.noConfusion (show false = true from h)
    | [_], _ :: _ :: _, h => exact Bool.noConfusion (show false = true from h)
  | .cmp2 op1 op2 a b d, e, c, X, ok, h => by
    cases e <;> first | exact Bool.noConfusion (show false = true from h) | skip
    rename_i l os rs p
    match os, rs, h with
    | [o1, o2], [r, s], h =>
      have h : (decide (o1 = op1.op) && (decide (o2 = op2.op) && (plainX s && (chkE q c a l && (chkE q c b r && chkE q c d s))))) = true := h
      simp only [Bool.and_eq_true, decide_eq_true_eq] at h
      obtain ⟨rfl, rfl, hp, h1, h2, h3⟩ := h
      intro W tk
      refine PT.imp (pt_chain (opr_cmp ok.units op1) (opr_cmp ok.units op2) (soundE a l c X ok h1 W tk) (soundE b r c X ok h2 W tk) (soundE d s c X ok h3 W tk) (plain_in hp _)) fun σV H Q hh => ?_
      have hh := imp_tB σV H Q hh
      rw [ok.K]
      exact imp_chain (ops_cmp op1) (ops_cmp op2) σV H _ (by simpa only [tE, evE] using hh)
    | [], _, h => exact Bool.noConfusion (show false = true from h)
    | [_], [], h => exact Bool.noConfusion (show false = true from h)
    | [_], _ :: _, h => exact Bool.noConfusion (show false = true from h)
    | [_, _], [], h => exact Bool.noConfusion (show false = true from h)
    | [_, _], [_], h => exact Bool.noConfusion (show false = true from h)
    | [_, _], _ :: _ :: _ :: _, h => exact Bool.noConfusion (show false = true from h)
    | _ :: _ :: _ :: _, [], h => exact Bool.noConfusion (show false = true from h)
    | _ :: _ :: _ :: _, _ :: _, h => exact Bool.noConfusion (show false = true from h)
  | .and a b, e, c, X, ok, h => by
    cases e <;> first | exact Bool.noConfusion (show false = true from h) | skip
    rename_i o vs p
    cases o <;> first | exact Bool.noConfusion (show false = true from h) | skip
    match vs, h with
    | [l, r], h =>
      have h : (chkE q c a l && chkE q c b r) = true := h
      simp only [Bool.and_eq_true] at h
      intro W tk
      exact PT.imp (PW.pt (pw_and (soundT a l c X ok h.1 W tk) (pw_and1 (soundT b r c X ok h.2 W tk)))) fun σV H Q hh => imp_tand σV H Q (by simpa only [tT, evE] using hh)
    | l :: r :: r2 :: rest, h =>
      have h : (chkE q c a l && chkE q c b (.BoolOp .And (r :: r2 :: rest) p)) = true := h
      simp only [Bool.and_eq_true] at h
      intro W tk
      exact PT.imp (PW.pt (pw_and (soundT a l c X ok h.1 W tk) (pw_of (soundT b _ c X ok h.2 W tk)))) fun σV H Q hh => imp_tand σV H Q (by simpa only [tT, evE] using hh)
    | [], h => exact Bool.noConfusion (show false = true from h)
    | [_], h => exact Bool.noConfusion (show false = true from h)
  | .or a b, e, c, X, ok, h => by
    cases e <;> first | exact Bool.noConfusion (show false = true from h) | skip
    rename_i o vs p
    cases o <;> first | exact Bool.noConfusion (show false = true from h) | skip
    match vs, h with
    | [l, r], h =>
      have h : (chkE q c a l && chkE q c b r) = true := h
      simp only [Bool.and_eq_true] at h
      intro W tk
      exact PT.imp (PW.pt (pw_or (soundT a l c X ok h.1 W tk) (pw_or1 (soundT b r c X ok h.2 W tk)))) fun σV H Q hh => imp_tor σV H Q (by simpa only [tT, evE] using hh)
    | l :: r :: r2 :: rest, h =>
      have h : (chkE q c a l && chkE q c b (.BoolOp .Or (r :: r2 :: rest) p)) = true := h
      simp only [Bool.and_eq_true] at h
      intro W tk
      exact PT.imp (PW.pt (pw_or (soundT a l c X ok h.1 W tk) (pw_of (soundT b _ c X ok h.2 W tk)))) fun σV H Q hh => imp_tor σV H Q (by simpa only [tT, evE] using hh)
    | [], h => exact Bool.noConfusion (show false = true from h)
    | [_], h => exact Bool.noConfusion (show false = true from h)
  | .not a, e, c, X, ok, h => by
    cases e <;> first | exact Bool.noConfusion (show false = true from h) | skip
    rename_i o l p
    cases o <;> first | exact Bool.noConfusion (show false = true from h) | skip
    intro W tk
    exact PT.imp (pt_not (soundT a l c X ok h W tk)) fun σV H Q hh => imp_tnot σV H Q (by simpa only [tT, evE] using hh)
  | .var i, e, c, X, ok, h => by
    have p := soundE (.var i) e c X ok h
    cases e <;> first | exact Bool.noConfusion (show false = true from h) | exact dt_val p fun _ => rfl
  | .bl b, e, c, X, ok, h => by
    have p := soundE (.bl b) e c X ok h
    cases e <;> first | exact Bool.noConfusion (show false = true from h) | exact dt_val p fun _ => rfl
  | .ix a b, e, c, X, ok, h => by
    have p := soundE (.ix a b) e c X ok h
    cases e <;> first | exact Bool.noConfusion (show false = true from h) | exact dt_val p fun _ => rfl
  | .call f args, e, c, X, ok, h => by
    have p := soundE (.call f args) e c X ok h
    cases e <;> first | exact Bool.noConfusion (show false = true from h) | exact dt_val p fun _ => rfl
  | .bi b args, e, c, X, ok, h => by
    have p := soundE (.bi b args) e c X ok h
    cases e <;> first | (cases b <;> rcases args with _ | ⟨a, _ | ⟨a2, r⟩⟩ <;> exact Bool.noConfusion (show false = true from h)) | exact dt_val p fun _ => rfl
  | .isi a t, e, c, X, ok, h => by
    have p := soundE (.isi a t) e c X ok h
    cases e <;> first | exact Bool.noConfusion (show false = true from h) | exact dt_val p fun _ => rfl
  | .glob g, e, c, X, ok, h => by
    have p := soundE (.glob g) e c X ok h
    cases e <;> first | exact Bool.noConfusion (show false = true from h) | exact dt_val p fun _ => rfl
  | .int i, e, c, X, ok, h => by
    have p := soundE (.int i) e c X ok h
    cases e <;> first | exact Bool.noConfusion (show false = true from h) | exact dt_val p fun _ => rfl
  | .str i, e, c, X, ok, h => by
    have p := soundE (.str i) e c X ok h
    cases e <;> first | exact Bool.noConfusion (show false = true from h) | exact dt_val p fun _ => rfl
  | .non, e, c, X, ok, h => by
    have p := soundE .non e c X ok h
    cases e <;> first | exact Bool.noConfusion (show false = true from h) | exact dt_val p fun _ => rfl
  | .bin op a b, e, c, X, ok, h => by
    have p := soundE (.bin op a b) e c X ok h
    cases e <;> first | exact Bool.noConfusion (show false = true from h) | exact dt_val p fun _ => rfl
  | .neg a, e, c, X, ok, h => by
    have p := soundE (.neg a) e c X ok h
    cases e <;> first | exact Bool.noConfusion (show false = true from h) | skip
    rename_i o l pp
    cases o <;> first | exact Bool.noConfusion (show false = true from h) | exact dt_val p fun _ => rfl
  | .tup xs, e, c, X, ok, h => by
    have p := soundE (.tup xs) e c X ok h
    cases e <;> first | exact Bool.noConfusion (show false = true from h) | exact dt_val p fun _ => rfl
  | .lst xs, e, c, X, ok, h => by
    have p := soundE (.lst xs) e c X ok h
    cases e <;> first | exact Bool.noConfusion (show false = true from h) | exact dt_val p fun _ => rfl
  | .dic _ _, e, c, X, ok, h => by
    cases e <;> exact Bool.noConfusion (show false = true from h)
  | .sl l h' a lo hi, e, c, X, ok, h => by
    have p := soundE (.sl l h' a lo hi) e c X ok h
    cases e <;> first | exact Bool.noConfusion (show false = true from h) | exact dt_val p fun _ => rfl
  | .rev a, e, c, X, ok, h => by
    have p := soundE (.rev a) e c X ok h
    cases e <;> first | exact Bool.noConfusion (show false = true from h) | exact dt_val p fun _ => rfl
  | .comp e' tg it cond own, e, c, X, ok, h => by
    have p := soundE (.comp e' tg it cond own) e c X ok h
    cases e <;> first | exact Bool.noConfusion (show false = true from h) | exact dt_val p fun _ => rfl
  | .meth m o args, e, c, X, ok, h => by
    have p := soundE (.meth m o args) e c X ok h
    cases e <;> first | exact Bool.noConfusion (show false = true from h) | exact dt_val p fun _ => rfl
  | .fld _ _, e, c, X, ok, h => by
    cases e <;> exact Bool.noConfusion (show false = true from h)
  | .omth _ _ _, e, c, X, ok, h => by
    cases e <;> exact Bool.noConfusion (show false = true from h)
  | .new _ _, e, c, X, ok, h => by
    cases e <;> exact Bool.noConfusion (show false = true from h)
  | .exis _, e, c, X, ok, h => by
    cases e <;> exact Bool.noConfusion (show false = true from h)
  | .exfld _, e, c, X, ok, h => by
    cases e <;> exact Bool.noConfusion (show false = true from h)
  termination_by a => (sizeOf a, 1)
theorem soundH : ∀ (a : CL) (es : List Expr) (c : Cfg) (X : Cx), Ok X c κ q n → chkL q c a es = true → ∀ W, Takes X W → PA X es (tAH κ W (evH (orc q.T n) none a))
  | .nil, es, c, X, ok, h => by
    cases es <;> first | exact Bool.noConfusion (show false = true from h) | skip
    intro W tk
    exact PA.imp pa_nil fun σV H Q hh => imp_hnil σV H Q (by simpa only [tAH, evH] using hh)
  | .cons a r, es, c, X, ok, h => by
    cases es <;> first | exact Bool.noConfusion (show false = true from h) | skip
    rename_i e es
    have h : (plainX e && (chkE q c a e && chkL q c r es)) = true := h
    simp only [Bool.and_eq_true] at h
    intro W tk
    exact PA.imp (pa_cons (soundE a e c X ok h.2.1 W tk) (soundH r es c X ok h.2.2 W tk) (plain_star h.1 es)) fun σV H Q hh => imp_hcons σV H Q (by simpa only [tAH, evH] using hh)
  termination_by a => (sizeOf a, 0)
theorem soundA : ∀ (a : CL) (es : List Expr) (c : Cfg) (X : Cx), Ok X c κ q n → chkL q c a es = true → ∀ W, Takes X W → PA X es (tAA κ W (evA (orc q.T n) none a))
  | .nil, es, c, X, ok, h => by
    cases es <;> first | exact Bool.noConfusion (show false = true from h) | skip
    intro W tk
    exact PA.imp pa_nil fun σV H Q hh => imp_anil σV H Q (by simpa only [tAA, evA] using hh)
  | .cons a r, es, c, X, ok, h => by
    cases es <;> first | exact Bool.noConfusion (show false = true from h) | skip
    rename_i e es
    have h : (plainX e && (chkE q c a e && chkL q c r es)) = true := h
    simp only [Bool.and_eq_true] at h
    intro W tk
    exact PA.imp (pa_cons (soundE a e c X ok h.2.1 W tk) (soundA r es c X ok h.2.2 W tk) (plain_star h.1 es)) fun σV H Q hh => imp_acons σV H Q (by simpa only [tAA, evA] using hh)
  termination_by a => (sizeOf a, 0)
theorem soundI : ∀ (a : I) (tg e : Expr) (c : Cfg) (X : Cx), Ok X c κ q n → plainX e = true → chkI q c a tg e = true → ∀ W, Takes X W → PI X tg e (tI κ W (evI (orc q.T n) none a))
  | .it a, tg, e, c, X, ok, hp, h => by
    intro W tk
    refine PI.imp (pi_any (soundE a e c X ok h W tk)) ?_
    rintro σV H R ⟨ι, σ, M, hs, m, hh⟩
    unfold evI at hh
    refine ⟨ι, σ, M, hs, m, post_mono (post_bind (R1 := RV κ) mono_RI hh) fun x H1 q1 => ?_⟩
    obtain ⟨ι1, d, M1, x1, m1, r1, q1⟩ := q1
    obtain ⟨p, ep, q1⟩ := post_ofO q1
    rw [ok.K]
    exact itOf_rep m1 ep r1.1 q1
  | .range1 a, tg, e, c, X, ok, hp, h => by
    cases e <;> first | exact Bool.noConfusion (show false = true from h) | skip
    rename_i fn es kws p
    cases fn <;> first | exact Bool.noConfusion (show false = true from h) | skip
    rename_i x p2
    match es, kws, h with
    | [e], [], h =>
      have h : (decide (x = "range") && (glbB c x && (plainX e && chkE q c a e))) = true := h
      simp only [Bool.and_eq_true, decide_eq_true_eq] at h
      obtain ⟨rfl, hg, hp1, h1⟩ := h
      obtain ⟨g1, g2, g3⟩ := ok.glb hg
      intro W tk
      have hst : starEach [e] X.env = [(false, eval e X.env)] := plain_star hp1 []
      refine PI.imp (pi_range1 g1 ok.facts.range (pa_cons (soundE a e c X ok h1 W tk) pa_nil (plain_star hp1 [])) hst) ?_
      rintro σV H R ⟨ι, σ, M, hs, m, hh⟩
      unfold evI at hh
      refine ⟨ι, σ, M, hs, m, post_mono (post_bind (R1 := RV κ) mono_RI hh) fun x H1 q1 => ?_⟩
      obtain ⟨ι1, d, M1, x1, m1, r1, q1⟩ := q1
      cases d with
      | int i =>
        have r1' := r1.1
        simp only [Rep] at r1'
        subst r1'
        rw [onI_int] at q1
        obtain ⟨⟨b1, b2⟩, q1⟩ := post_ite q1
        exact ⟨i, rfl, by omega, by omega, q1 ι1 H1 _ (Ext.refl _ _) m1 (walk_rng 0 i.toNat)⟩
      | _ => exact q1.elim
  | .range2 a b, tg, e, c, X, ok, hp, h => by
    cases e <;> first | exact Bool.noConfusion (show false = true from h) | skip
    rename_i fn es kws p
    cases fn <;> first | exact Bool.noConfusion (show false = true from h) | skip
    rename_i x p2
    match es, kws, h with
    | [e, f], [], h =>
      have h : (decide (x = "range") && (glbB c x && (plainX e && (plainX f && (chkE q c a e && chkE q c b f))))) = true := h
      simp only [Bool.and_eq_true, decide_eq_true_eq] at h
      obtain ⟨rfl, hg, hp1, hp2, h1, h2⟩ := h
      obtain ⟨g1, g2, g3⟩ := ok.glb hg
      intro W tk
      have hs2 : starEach [f] X.env = [(false, eval f X.env)] := plain_star hp2 []
      have hst : starEach [e, f] X.env = [(false, eval e X.env), (false, eval f X.env)] := by rw [plain_star hp1 [f], hs2]
      refine PI.imp (pi_range2 g1 ok.facts.range (pa_cons (soundE a e c X ok h1 W tk) (pa_cons (soundE b f c X ok h2 W tk) pa_nil (plain_star hp2 [])) (plain_star hp1 [f])) hst hs2) ?_
      rintro σV H R ⟨ι, σ, M, hs, m, hh⟩
      unfold evI at hh
      refine ⟨ι, σ, M, hs, m, post_mono (post_bind (R1 := RV κ) mono_RI hh) fun x H1 q1 => ?_⟩
      obtain ⟨ι1, d, M1, x1, m1, r1, q1⟩ := q1
      refine ⟨ι1, σ, M1, hs.mono x1, m1, post_mono (post_bind (R1 := RV κ) mono_RI q1) fun y H2 q2 => ?_⟩
      obtain ⟨ι2, d2, M2, x2, m2, r2, q2⟩ := q2
      cases d with
      | int i =>
        cases d2 with
        | int j =>
          have r1' := r1.1
          have r2' := r2.1
          simp only [Rep] at r1' r2'
          subst r1' r2'
          rw [onI_int, onI_int] at q2
          obtain ⟨⟨b1, b2, b3, b4⟩, q2⟩ := post_ite q2
          exact ⟨i, j, rfl, ⟨by omega, by omega, by omega, by omega⟩, q2 ι2 H2 _ (Ext.refl _ _) m2 (walk_rng i (j - i).toNat)⟩
        | _ => exact q2.elim
      | _ => exact q2.elim
  | .enum a, tg, e, c, X, ok, hp, h => by
    cases e <;> exact Bool.noConfusion (show false = true from h)
  | .zip a, tg, e, c, X, ok, hp, h => by
    cases e <;> exact Bool.noConfusion (show false = true from h)
  termination_by a => (sizeOf a, 0)
end
end
end MI

set_option Elab.async false
set_option linter.all false
set_option maxRecDepth 100000
/-! MIr: what is checked runs as the small language says: statements, defs, the law. -/
namespace MI
open PySem PySem.Spec PyProof.Rows L2
theorem notLc_swaps {v : Expr} (h : notLc v = true) (hp : plainX v = true) (t : Option Expr) (l : Nat) (env : PySem.Env) : swapsWith v t l env = pure false := by
  cases v <;> first | rfl | (simp [notLc] at h; done) | (simp [plainX] at hp; done)
theorem notLc_sole {v : Expr} (h : notLc v = true) (hp : plainX v = true) (t : Expr) (l : Nat) (env : PySem.Env) : swapsWithSole [t] v l env = pure false := by
  cases v <;> first | rfl | (simp [notLc] at h; done) | (simp [plainX] at hp; done)
theorem notTup_swapped {v : Expr} (h : notTup v = true) (ts : List Expr) (k : Nat) (p : Pos) (env : PySem.Env) : swappedStores [.Tuple ts k p] v env = pure none := by
  cases v <;> first | rfl | (simp [notTup] at h; done)
section
variable {κ : KK} {q : Nmz} {n : Nat}
/-- name = e, whatever e is -/
theorem ps_asgC {X : Cx} {c : Cfg} (ok : Ok X c κ q n) {i : Nat} {y : Str} {py pos : Pos} {v : Expr} {a : C} (hs : stoB c i y = true) (hw : swapOk c y py v = true) (hp : plainX v = true) (hv : chkE q c a v = true) (W : WX) (tk : Takes X W) :
    PS X (.Assign [.Name y py] v pos) (tAsg (tE κ W (evE (orc q.T n) none a)) (gName i)) := by
  obtain ⟨h1, h2, h3⟩ := ok.sto hs
  by_cases hl : notLc v = true
  · exact ps_set ok.nd h1 h2 (soundE a v c X ok hv W tk) (notLc_swaps hl hp _ _ _) h3
  · cases v <;> first | (exact absurd rfl hl) | skip
    rename_i elt gens scope p
    have hk : X.env.scope.names.lookup y = some .cell ∨ (X.env.scope.names.lookup y = some .local ∧ (py.line == p.line) = true ∧ (scope.names.any fun (n, k) => n == y && (k == .local || k == .cell)) = false) := by
      simp only [swapOk] at hw
      rw [ok.sc]
      split at hw
      · rename_i e; exact .inl e
      · rename_i e
        simp only [Bool.and_eq_true, Bool.not_eq_true'] at hw
        exact .inr ⟨e, hw.1, hw.2⟩
      · cases hw
    rcases hk with hk | ⟨hk, hline, hown⟩
    · refine ps_set ok.nd h1 h2 (soundE a _ c X ok hv W tk) ?_ h3
      have ky : X.env.kindOf y = some .cell := hk
      unfold swapsWith
      simp only [ky]
      show (pure (_ && false && _ && _) : Sem Bool) = _
      simp
    · cases a <;> first | exact Bool.noConfusion (show false = true from hv) | (rename_i b args; cases b <;> rcases args with _ | ⟨a, _ | ⟨a2, r⟩⟩ <;> exact Bool.noConfusion (show false = true from hv)) | skip
      rename_i e tg it cond own
      match gens, hv with
      | [⟨t, iter, ifs, 0⟩], hv =>
        have hv : (c.calm && (blkC c.N c.sc scope (ownOf c.N own) && (inOwn own tg && (plainX iter && (chkI q c it t iter && (chkTg (c.block scope) tg t && ((match (generalizing := false) ifs with
          | [] => (match (generalizing := false) cond with
            | .bl true => true
            | _ => false)
          | [f] => chkE q (c.block scope) cond f
          | _ => false) && chkE q (c.block scope) e elt))))))) = true := hv
        simp only [Bool.and_eq_true] at hv
        obtain ⟨hc, hb, ho, hpi, hi, ht, hif, he⟩ := hv
        obtain ⟨hcalm, hroom⟩ := ok.calm hc
        have hblk : BlkOk X.N X.env.scope scope (ownOf c.N own) := by rw [ok.N, ok.sc]; exact blkOk_by hb
        have hpt : ∀ (s : Shared) (H : Hp) (C : Addr) (cl : List (Str × Addr)) (fp : List Addr), PTs (X.blk s H scope (compEnvC scope cl C X.env) fp) ifs (tT κ (fun _ _ _ _ => False) (evE (orc q.T n) none cond)) := by
          intro s H C cl fp
          cases ifs with
          | nil =>
            have ec : cond = .bl true := ifs_nil hif
            rw [ec]
            refine PTs.imp pts_nil ?_
            rintro σV H Q ⟨ι, σ, M, hs, m, hh⟩
            unfold evE at hh
            exact hh ι H true (Ext.refl _ _) m rfl
          | cons f r =>
            cases r with
            | nil => exact pts_one (soundT cond f _ _ (ok.blk s H scope cl C fp) hif _ takes0)
            | cons g r => exact Bool.noConfusion (show false = true from hif)
        refine ⟨fun pins s0 σV0 H0 D0 I0 hh0 => ?_⟩
        have hsw : swapsWith (.ListComp elt [⟨t, iter, ifs, 0⟩] scope p) (some (.Name y py)) pos.line X.env = pure true := by
          exact sw_true I0.ok.kind hk hline hown
        have L := ps_setLc (spos := pos) hcalm ok.nd h1 hk hsw (soundI it t iter c X ok hpi hi W tk) hblk (fun s H C cl fp => pg_tg (ok.blk s H scope cl C fp) hcalm ht) hpt (fun s H C cl fp => soundE e elt _ _ (ok.blk s H scope cl C fp) he _ takes0) (plain_fold hpi)
        rw [lc_own] at L
        refine (PS.imp L fun Dn σV H hh => ?_).run pins s0 σV0 H0 D0 I0 hh0
        exact comp_imp ho σV _ (by simpa only [tAsg, tE, evE] using hh)
set_option maxHeartbeats 4000000 in
mutual
theorem soundS : ∀ (a : S) (st : Stmt) (c : Cfg) (X : Cx), Ok X c κ q n → PassesOwn (model X.prog X.w) X.A X.env X.xe → chk1 q c a st = true → ∀ W, Takes X W → PS X st (tS κ W (evS (orc q.T n) none a))
  | .asg i e, st, c, X, ok, hpass, h => by
    cases st <;> first | exact Bool.noConfusion (show false = true from h) | skip
    rename_i ts v p
    match ts, h with
    | [.Name y py], h =>
      have h : (stoB c i y && (swapOk c y py v && (plainX v && chkE q c e v))) = true := h
      simp only [Bool.and_eq_true] at h
      intro W tk
      exact PS.imp (ps_asgC ok h.1 h.2.1 h.2.2.1 h.2.2.2 W tk) fun Dn σV H hh => imp_asg Dn σV H (by simpa only [tS, evS] using hh)
  | .asgT is e, st, c, X, ok, hpass, h => by
    cases st <;> first | exact Bool.noConfusion (show false = true from h) | skip
    rename_i ts v p
    match ts, h with
    | [.Tuple ts k p2], h =>
      have h : (c.calm && (chkNm c is ts && (notLc v && (notTup v && (plainX v && chkE q c e v))))) = true := h
      simp only [Bool.and_eq_true] at h
      obtain ⟨hc, h1, h2, h3, h4, h5⟩ := h
      obtain ⟨hcalm, hroom⟩ := ok.calm hc
      intro W tk
      refine PS.imp (ps_asg (soundE e v c X ok h5 W tk) (pg_tg (tg := .tup is) (e := .Tuple ts k p2) ok hcalm h1) (notLc_sole h2 h4 _ _ _) (notTup_swapped h3 ts k p2 X.env) rfl) fun Dn σV H hh => ?_
      exact imp_asgT Dn σV H (by simpa only [tS, evS] using hh)
  | .asgIx o i e, st, c, X, ok, hpass, h => by
    cases st <;> first | exact Bool.noConfusion (show false = true from h) | skip
    rename_i ts v p
    match ts, h with
    | [.Subscript oe ie p2], h =>
      have h : (notLc v && (plainX v && (plainX ie && (chkE q c e v && (chkE q c o oe && chkE q c i ie))))) = true := h
      simp only [Bool.and_eq_true] at h
      obtain ⟨h1, h2, h3, h4, h5, h6⟩ := h
      intro W tk
      have hg : PG X (.Subscript oe ie p2) (gSub (tE κ W (evE (orc q.T n) none o)) (tE κ W (evE (orc q.T n) none i)) rSetL) := by
        refine pg_sub (soundE o oe c X ok h5 W tk) (soundE i ie c X ok h6 W tk) set_list ?_
        cases ie <;> first | (intro _; rfl) | (simp [plainX] at h3)
      refine PS.imp (ps_asg (soundE e v c X ok h4 W tk) hg (notLc_sole h1 h2 _ _ _) ?_ rfl) fun Dn σV H hh => ?_
      · cases v <;> rfl
      · exact imp_asgIx Dn σV H (by simpa only [tS, evS] using hh)
  | .augIx _ _ _ _, st, c, X, ok, hpass, h => by
    cases st <;> exact Bool.noConfusion (show false = true from h)
  | .asgFld _ _ _, st, c, X, ok, hpass, h => by
    cases st <;> exact Bool.noConfusion (show false = true from h)
  | .expr e, st, c, X, ok, hpass, h => by
    cases st <;> first | exact Bool.noConfusion (show false = true from h) | skip
    rename_i v p
    have h : (notLc v && (plainX v && chkE q c e v)) = true := h
    simp only [Bool.and_eq_true] at h
    intro W tk
    exact PS.imp (ps_expr (soundE e v c X ok h.2.2 W tk) (notLc_swaps h.1 h.2.1 _ _ _)) fun Dn σV H hh => imp_expr Dn σV H (by simpa only [tS, evS] using hh)
  | .ret e, st, c, X, ok, hpass, h => by
    cases st <;> first | exact Bool.noConfusion (show false = true from h) | skip
    rename_i v p
    cases v <;> first | exact Bool.noConfusion (show false = true from h) | skip
    intro W tk
    exact PS.imp (ps_ret (soundE e _ c X ok h W tk)) fun Dn σV H hh => imp_ret Dn σV H (by simpa only [tS, evS] using hh)
  | .ife t a b, st, c, X, ok, hpass, h => by
    cases st <;> first | exact Bool.noConfusion (show false = true from h) | skip
    rename_i e x y p
    have h : (chkE q c t e && (chkB q c a x && chkB q c b y)) = true := h
    simp only [Bool.and_eq_true] at h
    intro W tk
    exact PS.imp (ps_if (soundT t e c X ok h.1 W tk) (soundB a x c X ok hpass h.2.1 W tk) (soundB b y c X ok hpass h.2.2 W tk)) fun Dn σV H hh => imp_if Dn σV H (by simpa only [tS, evS] using hh)
  | .for_ tg it body, st, c, X, ok, hpass, h => by
    cases st <;> first | exact Bool.noConfusion (show false = true from h) | skip
    rename_i t iter b els p
    cases els <;> first | exact Bool.noConfusion (show false = true from h) | skip
    have h : (c.calm && (plainX iter && (chkI q c it t iter && (chkTg c tg t && chkB q c body b)))) = true := h
    simp only [Bool.and_eq_true] at h
    obtain ⟨hc, h1, h2, h3, h4⟩ := h
    obtain ⟨hcalm, hroom⟩ := ok.calm hc
    intro W tk
    exact PS.imp (ps_for hpass hcalm (soundI it t iter c X ok h1 h2 W tk) (pg_tg ok hcalm h3) (soundB body b c X ok hpass h4 W tk) (plain_fold h1)) fun Dn σV H hh => imp_for Dn σV H (by simpa only [tS, evS] using hh)
  | .whl t body, st, c, X, ok, hpass, h => by
    cases st <;> first | exact Bool.noConfusion (show false = true from h) | skip
    rename_i e b els p
    cases els <;> first | exact Bool.noConfusion (show false = true from h) | skip
    have h : (chkE q c t e && chkB q c body b) = true := h
    simp only [Bool.and_eq_true] at h
    intro W tk
    exact PS.imp (ps_while hpass (soundT t e c X ok h.1 W tk) (soundB body b c X ok hpass h.2 W tk)) fun Dn σV H hh => imp_whl (n := (orc q.T n).wf) Dn σV H (by have hh := hh; simp only [tS, evS] at hh; exact hh)
  | .pass, st, c, X, ok, hpass, h => by
    cases st <;> first | exact Bool.noConfusion (show false = true from h) | skip
    intro W tk
    exact PS.imp ps_pass fun Dn σV H hh => imp_next Dn σV H (by simpa only [tS, evS] using hh)
  | .brk, st, c, X, ok, hpass, h => by
    cases st <;> first | exact Bool.noConfusion (show false = true from h) | skip
    intro W tk
    exact PS.imp ps_break fun Dn σV H hh => imp_brk Dn σV H (by simpa only [tS, evS] using hh)
  | .cnt, st, c, X, ok, hpass, h => by
    cases st <;> first | exact Bool.noConfusion (show false = true from h) | skip
    intro W tk
    exact PS.imp ps_continue fun Dn σV H hh => imp_cnt Dn σV H (by simpa only [tS, evS] using hh)
  | .raise _ _, st, c, X, ok, hpass, h => by
    cases st <;> exact Bool.noConfusion (show false = true from h)
  | .try_ _ _ _, st, c, X, ok, hpass, h => by
    cases st <;> exact Bool.noConfusion (show false = true from h)
  | .seq _ _, st, c, X, ok, hpass, h => by
    cases st <;> exact Bool.noConfusion (show false = true from h)
  | .nop, st, c, X, ok, hpass, h => by
    cases st <;> exact Bool.noConfusion (show false = true from h)
theorem soundB : ∀ (a : S) (st : List Stmt) (c : Cfg) (X : Cx), Ok X c κ q n → PassesOwn (model X.prog X.w) X.A X.env X.xe → chkB q c a st = true → ∀ W, Takes X W → PSs X st (tS κ W (evS (orc q.T n) none a))
  | .nop, st, c, X, ok, hpass, h => by
    cases st <;> first | exact Bool.noConfusion (show false = true from h) | skip
    intro W tk
    exact PSs.imp pss_nil fun Dn σV H hh => imp_next Dn σV H (by simpa only [tS, evS] using hh)
  | .seq a b, st, c, X, ok, hpass, h => by
    cases st <;> first | exact Bool.noConfusion (show false = true from h) | skip
    rename_i st r
    have h : (chk1 q c a st && chkB q c b r) = true := h
    simp only [Bool.and_eq_true] at h
    intro W tk
    exact PSs.imp (pss_cons (soundS a st c X ok hpass h.1 W tk) (soundB b r c X ok hpass h.2 W tk)) fun Dn σV H hh => imp_seq Dn σV H (by simpa only [tS, evS] using hh)
  | .asg _ _, st, c, X, ok, hpass, h => by cases st <;> exact Bool.noConfusion (show false = true from h)
  | .asgT _ _, st, c, X, ok, hpass, h => by cases st <;> exact Bool.noConfusion (show false = true from h)
  | .asgIx _ _ _, st, c, X, ok, hpass, h => by cases st <;> exact Bool.noConfusion (show false = true from h)
  | .augIx _ _ _ _, st, c, X, ok, hpass, h => by cases st <;> exact Bool.noConfusion (show false = true from h)
  | .asgFld _ _ _, st, c, X, ok, hpass, h => by cases st <;> exact Bool.noConfusion (show false = true from h)
  | .expr _, st, c, X, ok, hpass, h => by cases st <;> exact Bool.noConfusion (show false = true from h)
  | .ret _, st, c, X, ok, hpass, h => by cases st <;> exact Bool.noConfusion (show false = true from h)
  | .ife _ _ _, st, c, X, ok, hpass, h => by cases st <;> exact Bool.noConfusion (show false = true from h)
  | .for_ _ _ _, st, c, X, ok, hpass, h => by cases st <;> exact Bool.noConfusion (show false = true from h)
  | .whl _ _, st, c, X, ok, hpass, h => by cases st <;> exact Bool.noConfusion (show false = true from h)
  | .pass, st, c, X, ok, hpass, h => by cases st <;> exact Bool.noConfusion (show false = true from h)
  | .brk, st, c, X, ok, hpass, h => by cases st <;> exact Bool.noConfusion (show false = true from h)
  | .cnt, st, c, X, ok, hpass, h => by cases st <;> exact Bool.noConfusion (show false = true from h)
  | .raise _ _, st, c, X, ok, hpass, h => by cases st <;> exact Bool.noConfusion (show false = true from h)
  | .try_ _ _ _, st, c, X, ok, hpass, h => by cases st <;> exact Bool.noConfusion (show false = true from h)
end
end
end MI

set_option Elab.async false
set_option linter.all false
set_option maxRecDepth 100000
/-! MIs: defs and the law. -/
namespace MI
open PySem PySem.Spec PyProof.Rows L2
/-- a def of the table stands in the program -/
structure Def (K : PySem.W.Frag) (mg : Str → Option Value) (q : Nmz) (fi : FnI) : Prop where
  ex : ∃ a fd st, mg fi.name = some (.ref a) ∧ Fun K fi.name fi.name st a fd ∧ Binds K fd fi.ps [] ∧ FnScope fi.N fi.ps (defScope st) ∧ chkB q ⟨fi.N, defScope st, [], false, true⟩ fi.body (defBody st) = true
/-- what the top leaves, besides the defs -/
structure Tops (κ : KK) (mg : Str → Option Value) (q : Nmz) : Prop where
  defs : ∀ f fi, q.T.fn f = some fi → Def κ.K mg q fi
  glob : ∀ g d, q.T.glob g = some d → ∃ x u v, q.gn g = some x ∧ mg x = some u ∧ RelV v u ∧ homed d = true ∧ ∀ ι H, Rep κ ι H d v
  bi : ∀ b : BI, mg b.nm = none
  range : mg "range" = none
  set : mg "set" = none
  isi : mg "isinstance" = none
  ty : ∀ t : Ty, mg (Str.ofString t.ty) = none
theorem units_of {A : Around} {k : Nat} (hr : Room k A) : A.units + 65 < cLine := by have := hr.un; omega
section
variable {P : Program} {w : World} {κ : KK} {mg : Str → Option Value} {base : Heap} {q : Nmz}
theorem start_rel {ι : List Addr} {H : Hp} {ds : List D} {vs : List V} (r : Reps κ ι H ds vs) (N : List Str) : RelS κ ι H (ds.map some ++ List.replicate (N.length - ds.length) none) (L2.start N vs) := by
  have hl := r.length
  refine ⟨by unfold L2.start; simp [hl], fun i d e => ?_⟩
  unfold L2.start
  by_cases hi : i < ds.length
  · rw [List.getElem?_append_left (by simpa using hi)] at e
    rw [List.getElem?_append_left (by simpa [← hl] using hi)]
    rw [List.getElem?_map] at e ⊢
    cases ed : ds[i]? with
    | none => rw [ed] at e; cases e
    | some d' =>
      rw [ed] at e; cases e
      obtain ⟨v, ev, rv, hv⟩ := r.get ed
      exact ⟨hv, v, by rw [ev]; rfl, rv⟩
  · rw [List.getElem?_append_right (by simpa using hi)] at e
    simp only [List.getElem?_replicate] at e
    split at e <;> cases e
theorem ended_post {ι : List Addr} {H : Hp} {r : SRes} {Q : VK} {E : XK} (h : post κ (RV κ) ι H (ended r) Q E) : postS κ ι H r { nx := fun _ H' => Q .non H', rt := Q } (fun cls d _ H' => E cls d H') := by
  cases r with
  | nx σ M => exact fun ι' H' σV x m s => h ι' H' .non x m ⟨rep_non, trivial⟩
  | ret d M => exact fun ι' H' v x m r => h ι' H' v x m r
  | brk σ M => exact h.elim
  | cnt σ M => exact h.elim
  | exc y σ M => exact fun ι' H' cl d σV x m r s => h ι' H' cl d x m r
  | stuck => exact h.elim
theorem fn_ok (n : Nat) (ih : ∀ m, n = m + 1 → Facts P w κ mg base q m) {f : Nat} {fi : FnI} (hf : q.T.fn f = some fi) {a : Addr} {fd : FuncData} {st : Stmt} (h2 : Fun κ.K fi.name fi.name st a fd) (h4 : FnScope fi.N fi.ps (defScope st)) (h5 : chkB q ⟨fi.N, defScope st, [], false, true⟩ fi.body (defBody st) = true) : FnOk P w κ.K mg base (L2.CX P w) n a fd fi.ps (spF κ q.T n f fi) := by
  cases n with
  | zero =>
    have no : ∀ vs H Q E, ¬ spF κ q.T 0 f fi vs H Q E := fun vs H Q E h => by
      obtain ⟨_, ι, ds, M, _, _, h⟩ := h
      unfold callN at h
      exact h
    exact ⟨fun vs H Q E h => absurd h (no vs H Q E), fun A outer s H args us vs Q E _ _ _ _ h => absurd h (no vs H Q E)⟩
  | succ n =>
    refine h2.okX h4 (fun vs H Q E h => h.1) fun cdv A outer s H vs Q E hr h => ?_
    obtain ⟨hl, ι, ds, M, rds, m, h⟩ := h
    unfold callN at h
    obtain ⟨fi', e, h⟩ := post_ofO h
    rw [hf] at e; cases e
    obtain ⟨hlen, h⟩ := post_ite h
    have ok : Ok (cxOf (L2.CX P w) P w κ.K mg base fi.N fi.name (defScope st) a cdv A outer s H E) ⟨fi.N, defScope st, [], false, true⟩ κ q n :=
      ⟨rfl, rfl, h4.nd, fun x => rfl, rfl, units_of hr, fun _ => ⟨rfl, hr⟩, ih n rfl⟩
    refine ⟨_, soundB fi.body _ _ _ ok (passes_of rfl) h5 _ (takes_of rfl rfl rfl rfl), ?_⟩
    exact ⟨ι, _, M, start_rel rds fi.N, m, ended_post h⟩
theorem facts (T : Tops κ mg q) : ∀ n : Nat, Facts P w κ mg base q n := by
  intro n
  induction n with
  | zero =>
    refine ⟨fun f fi hf => ?_, T.glob, T.bi, T.range, T.set, T.isi, T.ty⟩
    obtain ⟨a, fd, st, h1, h2, h3, h4, h5⟩ := (T.defs f fi hf).ex
    exact ⟨a, fd, h1, h2.kp, h3, fn_ok 0 (fun m e => by cases e) hf h2 h4 h5⟩
  | succ n ih =>
    refine ⟨fun f fi hf => ?_, T.glob, T.bi, T.range, T.set, T.isi, T.ty⟩
    obtain ⟨a, fd, st, h1, h2, h3, h4, h5⟩ := (T.defs f fi hf).ex
    exact ⟨a, fd, h1, h2.kp, h3, fn_ok (n + 1) (fun m e => by cases e; exact ih) hf h2 h4 h5⟩
end
theorem reps_ints {κ : KK} {ι : List Addr} {H : Hp} : ∀ ns : List Int, Reps κ ι H (ns.map D.int) (ns.map V.int)
  | [] => Reps.nil
  | n :: ns => Reps.cons ⟨rep_int n, rfl⟩ (reps_ints ns)
/-- the law's end -/
theorem law_walk {l : PySem.W.OpenLaw} {pq : Program} {loose : List Str} {XP : (Str → Option Value) → Heap → Prop} {YP : World → Heap → Prop} {d : DefRec} {K : Params → PySem.W.Frag} {q : Nmz} {k f : Nat} {fi : FnI} {x : Str} {cls : PySem.W.Frag → Nat → Addr} {fld : Nat → Str}
    (hn : l.most = some 63) (hdf : d.params.defaults = []) (hr : Room k callerA) (hY : ∀ (w : World) (h : Heap), YP w h → (K w.params).In h) (hf : q.T.fn f = some fi) (hname : fi.name = d.name) (hps : fi.ps = [x])
    (F : ∀ (w : World) (mg : Str → Option Value) (fa : Addr) (h : Heap), (K w.params).In h → h.Ns mainGlobals mg → mg d.name = some (.ref fa) →
      Tops ⟨K w.params, cls (K w.params), fld⟩ mg q ∧ ∀ fd, (∃ (st : Stmt), Fun (K w.params) fi.name fi.name st fa fd) → ∀ (s : Shared) (u : Value), BindsTo s fd ⟨[u], []⟩ [(x, u)])
    (law : ∀ ns : List Int, ns.length ≤ 63 → ∃ M, callN q.T k f [.frl (ns.map D.int)] [] = .ok (.bl true) M) :
    PySem.W.WalkO pq loose XP YP l.row.toRowW d [] (fun f vs => PySem.call f vs) := by
  refine L2.walk_of (n := 63) (k := k) (x := x) (CX := fun w => L2.CX l.prog w) (sp := fun w => spF ⟨K w.params, cls (K w.params), fld⟩ q.T k f fi) hn (by decide) hdf hr hY ?_ ?_ ?_
  · intro w mg fa h X G hfa
    obtain ⟨T, B⟩ := F w mg fa h X G hfa
    obtain ⟨a, fd, st, h1, h2, h3, h4, h5⟩ := (T.defs f fi hf).ex
    have ea : a = fa := by rw [hname, hfa] at h1; cases h1; rfl
    subst ea
    refine ⟨fd, B fd ⟨st, h2⟩, fun base X2 G2 => ?_⟩
    have z := fn_ok (P := l.prog) (w := w) (base := base) k (fun m _ => facts T m) hf h2 h4 h5
    rw [hps] at z
    exact z
  · intro w H a ns hl hO hS
    refine ⟨by rw [hps]; rfl, [], [.frl (ns.map D.int)], [], Reps.cons ⟨?_, rfl⟩ Reps.nil, ⟨rfl, List.nodup_nil, fun i o e => by simp at e⟩, ?_⟩
    · simp only [Rep]
      refine ⟨a, _, rfl, ?_, reps_ints ns⟩
      rcases hS with (hS | ⟨o, hS⟩) | hS
      · rcases hO a with h | ⟨o, xs, h⟩ <;> rw [h] at hS <;> cases hS
      · exact .inl ⟨o, hS⟩
      · exact .inr hS
    · obtain ⟨M, e⟩ := law ns hl
      rw [e]
      intro ι' H' v x m r
      simpa [RV, Rep] using r.1
  · intro w H s e s' h
    obtain ⟨_, _, _, _, _, _, _, _, _, _, _, _, z⟩ := h
    exact z
theorem tops_to {κ : KK} {mg : Str → Option Value} {q : Nmz} {x : Str} {fa a : Addr} {P : Addr → Prop} (hmg : mg x = some (.ref fa)) (z : Tops κ mg q ∧ mg x = some (.ref a) ∧ P a) : Tops κ mg q ∧ P fa := by
  have e := hmg.symm.trans z.2.1
  cases e
  exact ⟨z.1, z.2.2⟩
end MI

set_option Elab.async false
set_option linter.all false
set_option maxRecDepth 100000
/-! MIt: the evaluator's equations for simp; stores that grow. -/
namespace MI
open PySem
section
variable {O : Orc} {ex : Option Ex} {σ : Env} {M : Sto}
@[simp] theorem ee_var (i : Nat) : evE O ex (.var i) σ M = getV σ[i]? M := by simp only [evE]
@[simp] theorem ee_int (i : Int) : evE O ex (.int i) σ M = .ok (.int i) M := by simp only [evE]
@[simp] theorem ee_str (s : List Nat) : evE O ex (.str s) σ M = .ok (.str s) M := by simp only [evE]
@[simp] theorem ee_bl (b : Bool) : evE O ex (.bl b) σ M = .ok (.bl b) M := by simp only [evE]
@[simp] theorem ee_non : evE O ex .non σ M = .ok .non M := by simp only [evE]
@[simp] theorem ee_glob (g : Nat) : evE O ex (.glob g) σ M = ofO (O.glob g) fun d => .ok d M := by simp only [evE]
@[simp] theorem ee_bin (op : BOp) (a b : C) : evE O ex (.bin op a b) σ M = (evE O ex a σ M).bind fun x M1 => (evE O ex b σ M1).bind fun y M2 => binop op x y M2 := by simp only [evE]
@[simp] theorem ee_neg (a : C) : evE O ex (.neg a) σ M = (evE O ex a σ M).bind fun x M1 => onI x fun i => .ok (.int (-i)) M1 := by simp only [evE]
@[simp] theorem ee_cmp (op : COp) (a b : C) : evE O ex (.cmp op a b) σ M = (evE O ex a σ M).bind fun x M1 => (evE O ex b σ M1).bind fun y M2 => cmpop op x y M2 := by simp only [evE]
@[simp] theorem ee_cmp2 (o p : COp) (a b c : C) : evE O ex (.cmp2 o p a b c) σ M = (evE O ex a σ M).bind fun x M1 => (evE O ex b σ M1).bind fun y M2 => (cmpop o x y M2).bind fun k M3 => onB k ((evE O ex c σ M3).bind fun z M4 => cmpop p y z M4) (.ok (.bl false) M3) := by simp only [evE]
@[simp] theorem ee_and (a b : C) : evE O ex (.and a b) σ M = (evE O ex a σ M).bind fun x M1 => onB x (evE O ex b σ M1) (.ok (.bl false) M1) := by simp only [evE]
@[simp] theorem ee_or (a b : C) : evE O ex (.or a b) σ M = (evE O ex a σ M).bind fun x M1 => onB x (.ok (.bl true) M1) (evE O ex b σ M1) := by simp only [evE]
@[simp] theorem ee_not (a : C) : evE O ex (.not a) σ M = (evE O ex a σ M).bind fun x M1 => onB x (.ok (.bl false) M1) (.ok (.bl true) M1) := by simp only [evE]
@[simp] theorem ee_tup (xs : CL) : evE O ex (.tup xs) σ M = (evH O ex xs σ M).bind fun ds M1 => lim ds.length (.ok (.tup ds) M1) := by simp only [evE]
@[simp] theorem ee_lst (xs : CL) : evE O ex (.lst xs) σ M = (evH O ex xs σ M).bind fun ds M1 => lim ds.length (.ok (.lst ds) M1) := by simp only [evE]
@[simp] theorem ee_ix (a b : C) : evE O ex (.ix a b) σ M = (evE O ex a σ M).bind fun x M1 => (evE O ex b σ M1).bind fun y M2 => ixop x y M2 := by simp only [evE]
@[simp] theorem ee_sl (l h : Bool) (a lo hi : C) : evE O ex (.sl l h a lo hi) σ M = (evE O ex a σ M).bind fun x M1 =>
      (if l = true then (evE O ex lo σ M1).bind asPart else .ok none M1).bind fun lo' M2 => (if h = true then (evE O ex hi σ M2).bind asPart else .ok none M2).bind fun hi' M3 => slop x lo' hi' M3 := by simp only [evE]
@[simp] theorem ee_rev (a : C) : evE O ex (.rev a) σ M = (evE O ex a σ M).bind fun x M1 => revop x M1 := by simp only [evE]
@[simp] theorem ee_comp (e : C) (tg : Tg) (it : I) (cond : C) (own : List Nat) : evE O ex (.comp e tg it cond own) σ M = (evI O ex it σ M).bind fun p M1 => if p.1.length < LINE then
      (compL (turnC (fun σ' M' => evE O ex cond σ' M') fun σ' M' => evE O ex e σ' M') tg p.2 (wipeD σ own) p.1 M1).bind fun ds M2 => .ok (.lst ds) M2 else .stuck := by simp only [evE]
@[simp] theorem ee_call (f : Nat) (args : CL) : evE O ex (.call f args) σ M = (evH O ex args σ M).bind fun ds M1 => O.call f ds M1 := by simp only [evE]
@[simp] theorem ee_bi (b : BI) (args : CL) : evE O ex (.bi b args) σ M = (evA O ex args σ M).bind fun ds M1 => bi b ds M1 := by simp only [evE]
@[simp] theorem ee_meth (m : BM) (o : C) (args : CL) : evE O ex (.meth m o args) σ M = (evE O ex o σ M).bind fun x M1 => if isMT m.ty x M1 = true then (evH O ex args σ M1).bind fun ds M2 => meth m x ds M2 else .stuck := by simp only [evE]
@[simp] theorem ee_isi (a : C) (t : Ty) : evE O ex (.isi a t) σ M = (evE O ex a σ M).bind fun x M1 => ofO (isTy M1 t x) fun b => .ok (.bl b) M1 := by simp only [evE]
@[simp] theorem eh_nil : evH O ex .nil σ M = .ok [] M := by simp only [evH]
@[simp] theorem eh_cons (c : C) (r : CL) : evH O ex (.cons c r) σ M = (evE O ex c σ M).bind fun d M1 => (home d M1).bind fun d' M2 => (evH O ex r σ M2).bind fun ds M3 => .ok (d' :: ds) M3 := by simp only [evH]
@[simp] theorem ea_nil : evA O ex .nil σ M = .ok [] M := by simp only [evA]
@[simp] theorem ea_cons (c : C) (r : CL) : evA O ex (.cons c r) σ M = (evE O ex c σ M).bind fun d M1 => (evA O ex r σ M1).bind fun ds M3 => .ok (d :: ds) M3 := by simp only [evA]
@[simp] theorem ei_it (a : C) : evI O ex (.it a) σ M = (evE O ex a σ M).bind fun d M1 => ofO (itOf d M1) fun p => .ok p M1 := by simp only [evI]
@[simp] theorem ei_range1 (a : C) : evI O ex (.range1 a) σ M = (evE O ex a σ M).bind fun d M1 => onI d fun n => if -4611686018427387904 ≤ n ∧ n < 4611686018427387904 then .ok (rngD 0 n.toNat, none) M1 else .stuck := by simp only [evI]
@[simp] theorem ei_range2 (a b : C) : evI O ex (.range2 a b) σ M = (evE O ex a σ M).bind fun d M1 => (evE O ex b σ M1).bind fun e M2 => onI d fun m => onI e fun n =>
      if -4611686018427387904 ≤ m ∧ m < 4611686018427387904 ∧ -4611686018427387904 ≤ n ∧ n < 4611686018427387904 then .ok (rngD m (n - m).toNat, none) M2 else .stuck := by simp only [evI]
@[simp] theorem es_asg (i : Nat) (e : C) : evS O ex (.asg i e) σ M = (evE O ex e σ M).then σ fun d M1 => (home d M1).then σ fun d' M2 => .nx (σ.set i (some d')) M2 := by simp only [evS]
@[simp] theorem es_asgT (is : List Nat) (e : C) : evS O ex (.asgT is e) σ M = (evE O ex e σ M).then σ fun d M1 => ofS (bindTg (.tup is) d σ) fun σ' => .nx σ' M1 := by simp only [evS]
@[simp] theorem es_asgIx (o i e : C) : evS O ex (.asgIx o i e) σ M = (evE O ex e σ M).then σ fun d M1 => (home d M1).then σ fun d' M2 => (evE O ex o σ M2).then σ fun x M3 => (evE O ex i σ M3).then σ fun y M4 => ofS (setix x y d' M4) fun M5 => .nx σ M5 := by simp only [evS]
@[simp] theorem es_expr (e : C) : evS O ex (.expr e) σ M = (evE O ex e σ M).then σ fun _ M1 => .nx σ M1 := by simp only [evS]
@[simp] theorem es_ret (e : C) : evS O ex (.ret e) σ M = (evE O ex e σ M).then σ fun d M1 => .ret d M1 := by simp only [evS]
@[simp] theorem es_ife (c : C) (a b : S) : evS O ex (.ife c a b) σ M = (evE O ex c σ M).then σ fun k M1 => onS k (evS O ex a σ M1) (evS O ex b σ M1) := by simp only [evS]
@[simp] theorem es_for (tg : Tg) (it : I) (body : S) : evS O ex (.for_ tg it body) σ M = (evI O ex it σ M).then σ fun p M1 => forL (evS O ex body) tg p.2 p.1 σ M1 := by simp only [evS]
@[simp] theorem es_whl (c : C) (body : S) : evS O ex (.whl c body) σ M = whlL (evE O ex c) (evS O ex body) O.wf σ M := by simp only [evS]
@[simp] theorem es_pass : evS O ex .pass σ M = .nx σ M := by simp only [evS]
@[simp] theorem es_brk : evS O ex .brk σ M = .brk σ M := by simp only [evS]
@[simp] theorem es_cnt : evS O ex .cnt σ M = .cnt σ M := by simp only [evS]
@[simp] theorem es_seq (a b : S) : evS O ex (.seq a b) σ M = (evS O ex a σ M).andThen fun σ' M' => evS O ex b σ' M' := by simp only [evS]
@[simp] theorem es_nop : evS O ex .nop σ M = .nx σ M := by simp only [evS]
end
@[simp] theorem ended_nx (σ : Env) (M : Sto) : ended (.nx σ M) = .ok .non M := rfl
@[simp] theorem ended_ret (d : D) (M : Sto) : ended (.ret d M) = .ok d M := rfl
@[simp] theorem ended_exc (x : Ex) (σ : Env) (M : Sto) : ended (.exc x σ M) = .exc x M := rfl
@[simp] theorem then_ite {α : Type} (c : Prop) [Decidable c] (a b : Res α) (σ : Env) (k : α → Sto → SRes) : (if c then a else b).then σ k = if c then a.then σ k else b.then σ k := by split <;> rfl
@[simp] theorem bind_ite {α β : Type} (c : Prop) [Decidable c] (a b : Res α) (k : α → Sto → Res β) : (if c then a else b).bind k = if c then a.bind k else b.bind k := by split <;> rfl
@[simp] theorem andThen_ite (c : Prop) [Decidable c] (a b : SRes) (k : Env → Sto → SRes) : (if c then a else b).andThen k = if c then a.andThen k else b.andThen k := by split <;> rfl
@[simp] theorem ended_ite (c : Prop) [Decidable c] (a b : SRes) : ended (if c then a else b) = if c then ended a else ended b := by split <;> rfl
@[simp] theorem asPart_int (i : Int) (M : Sto) : asPart (.int i) M = .ok (some i) M := rfl
theorem callN_succ (T : Prg) (n f : Nat) (ds : List D) (M : Sto) : callN T (n + 1) f ds M = ofO (T.fn f) fun fi => if ds.length = fi.ps.length then
      ended (evS (orc T n) none fi.body (ds.map some ++ List.replicate (fi.N.length - ds.length) none) M) else .stuck := by
  rw [callN]; rfl
@[simp] theorem orc_call (T : Prg) (n : Nat) : (orc T n).call = callN T n := rfl
@[simp] theorem orc_glob (T : Prg) (n : Nat) : (orc T n).glob = T.glob := rfl
@[simp] theorem orc_wf (T : Prg) (n : Nat) : (orc T n).wf = T.wf := rfl
@[simp] theorem home_ref (h : Nat) (M : Sto) : home (.ref h) M = .ok (.ref h) M := rfl
@[simp] theorem home_int (i : Int) (M : Sto) : home (.int i) M = .ok (.int i) M := rfl
@[simp] theorem home_str (s : List Nat) (M : Sto) : home (.str s) M = .ok (.str s) M := rfl
@[simp] theorem home_bl (b : Bool) (M : Sto) : home (.bl b) M = .ok (.bl b) M := rfl
@[simp] theorem home_non (M : Sto) : home .non M = .ok .non M := rfl
@[simp] theorem home_tup (xs : List D) (M : Sto) : home (.tup xs) M = .ok (.tup xs) M := rfl
@[simp] theorem home_frl (xs : List D) (M : Sto) : home (.frl xs) M = .ok (.frl xs) M := rfl
@[simp] theorem home_lst (xs : List D) (M : Sto) : home (.lst xs) M = .ok (.ref M.length) (M ++ [.lst xs]) := rfl
@[simp] theorem home_dic (t : Bool) (ks vs : List D) (M : Sto) : home (.dic t ks vs) M = .ok (.ref M.length) (M ++ [.dic t ks vs]) := rfl
end MI

set_option Elab.async false
set_option linter.all false
set_option maxRecDepth 100000
/-! MIu: laws of the evaluator: calls, comprehensions, loops, stores that grow. -/
namespace MI
open PySem
theorem callN_f {T : Prg} {f : Nat} {fi : FnI} (hf : T.fn f = some fi) (n : Nat) (ds : List D) (M : Sto) (hl : ds.length = fi.ps.length) :
    callN T (n + 1) f ds M = ended (evS (orc T n) none fi.body (ds.map some ++ List.replicate (fi.N.length - ds.length) none) M) := by
  rw [callN_succ, hf, ofO_some, if_pos hl]
theorem lim_ok {α : Type} {n : Nat} {r : Res α} (h : n ≤ 1000000) : lim n r = r := by
  unfold lim
  rw [if_pos]
  exact Nat.le_trans h (by decide)
theorem lt_log {i : Int} {k : Nat} (h : i.natAbs < 2 ^ k) (hk : 0 < k) : i.natAbs.log2 < k := by
  by_cases h0 : i.natAbs = 0
  · rw [h0]; simpa using hk
  · exact (Nat.log2_lt h0).mpr h
theorem mul_ok {i j : Int} (hi : i.natAbs < 2 ^ 2000) (hj : j.natAbs < 2 ^ 2000) (M : Sto) : binop .mul (.int i) (.int j) M = .ok (.int (i * j)) M := by
  have h1 := lt_log hi (by decide)
  have h2 := lt_log hj (by decide)
  simp only [binop]
  rw [if_pos (by omega)]
theorem mod_ok {i j : Int} (h : 0 < j) (M : Sto) : binop .mod (.int i) (.int j) M = .ok (.int (i % j)) M := by
  simp only [binop]; rw [if_pos h]
theorem fdiv_ok {i j : Int} (h : 0 < j) (h2 : j < 1000000000000) (M : Sto) : binop .fdiv (.int i) (.int j) M = .ok (.int (i / j)) M := by
  have h3 : j.natAbs.log2 < 400 := lt_log (by omega) (by decide)
  simp only [binop]; rw [if_pos ⟨h, by omega⟩]
@[simp] theorem add_int (i j : Int) (M : Sto) : binop .add (.int i) (.int j) M = .ok (.int (i + j)) M := rfl
@[simp] theorem sub_int (i j : Int) (M : Sto) : binop .sub (.int i) (.int j) M = .ok (.int (i - j)) M := rfl
@[simp] theorem gt_int (i j : Int) (M : Sto) : cmpop .gt (.int i) (.int j) M = .ok (.bl (decide (j < i))) M := rfl
@[simp] theorem lt_int (i j : Int) (M : Sto) : cmpop .lt (.int i) (.int j) M = .ok (.bl (decide (i < j))) M := rfl
@[simp] theorem le_int (i j : Int) (M : Sto) : cmpop .le (.int i) (.int j) M = .ok (.bl (decide (i ≤ j))) M := rfl
@[simp] theorem ge_int (i j : Int) (M : Sto) : cmpop .ge (.int i) (.int j) M = .ok (.bl (decide (j ≤ i))) M := rfl
@[simp] theorem eq_int (i j : Int) (M : Sto) : cmpop .eq (.int i) (.int j) M = .ok (.bl (decide (i = j))) M := rfl
@[simp] theorem ne_int (i j : Int) (M : Sto) : cmpop .ne (.int i) (.int j) M = .ok (.bl (!decide (i = j))) M := rfl
@[simp] theorem eq_str (i j : List Nat) (M : Sto) : cmpop .eq (.str i) (.str j) M = .ok (.bl (decide (i = j))) M := rfl
@[simp] theorem ne_str (i j : List Nat) (M : Sto) : cmpop .ne (.str i) (.str j) M = .ok (.bl (!decide (i = j))) M := rfl
@[simp] theorem eq_bl (i j : Bool) (M : Sto) : cmpop .eq (.bl i) (.bl j) M = .ok (.bl (decide (i = j))) M := rfl
@[simp] theorem ne_bl (i j : Bool) (M : Sto) : cmpop .ne (.bl i) (.bl j) M = .ok (.bl (!decide (i = j))) M := rfl
@[simp] theorem isO_non (M : Sto) : cmpop .isO .non .non M = .ok (.bl true) M := rfl
@[simp] theorem isO_int (i : Int) (M : Sto) : cmpop .isO (.int i) .non M = .ok (.bl false) M := rfl
@[simp] theorem ix_tup (xs : List D) (i : Int) (M : Sto) : ixop (.tup xs) (.int i) M = ofO (atI xs i) fun d => .ok d M := rfl
@[simp] theorem ix_lst (xs : List D) (i : Int) (M : Sto) : ixop (.lst xs) (.int i) M = ofO (atI xs i) fun d => .ok d M := rfl
@[simp] theorem ix_frl (xs : List D) (i : Int) (M : Sto) : ixop (.frl xs) (.int i) M = ofO (atI xs i) fun d => .ok d M := rfl
@[simp] theorem cmp_in (x y : D) (M : Sto) : cmpop .inO x y M = ofO (inO M x y) fun b => .ok (.bl b) M := rfl
@[simp] theorem cmp_notin (x y : D) (M : Sto) : cmpop .notin x y M = ofO (inO M x y) fun b => .ok (.bl (!b)) M := rfl
theorem ix_ref {M : Sto} {h : Nat} {xs : List D} (e : M[h]? = some (.lst xs)) (i : Int) : ixop (.ref h) (.int i) M = ofO (atI xs i) fun d => .ok d M := by
  simp only [ixop, dicOf, e, items]
  rfl
theorem setix_ref {M : Sto} {h : Nat} {xs : List D} (e : M[h]? = some (.lst xs)) (i : Int) (v : D) : setix (.ref h) (.int i) v M = (ixN xs.length i).map fun j => M.set h (.lst (xs.set j v)) := by
  simp only [setix, e]
theorem atI_nat {α : Type} (xs : List α) (i : Nat) : atI xs (i : Int) = xs[i]? := by
  unfold atI ixN
  rw [if_pos (by omega)]
  by_cases h : i < xs.length
  · rw [if_pos (by omega)]; simp
  · rw [if_neg (by omega)]; simp; omega
theorem atI_0 {α : Type} (a : α) (xs : List α) : atI (a :: xs) 0 = some a := by rw [show (0 : Int) = ((0 : Nat) : Int) from rfl, atI_nat]; rfl
theorem atI_1 {α : Type} (a b : α) (xs : List α) : atI (a :: b :: xs) 1 = some b := by rw [show (1 : Int) = ((1 : Nat) : Int) from rfl, atI_nat]; rfl
theorem atI_2 {α : Type} (a b c : α) (xs : List α) : atI (a :: b :: c :: xs) 2 = some c := by rw [show (2 : Int) = ((2 : Nat) : Int) from rfl, atI_nat]; rfl
theorem atI_3 {α : Type} (a b c d : α) (xs : List α) : atI (a :: b :: c :: d :: xs) 3 = some d := by rw [show (3 : Int) = ((3 : Nat) : Int) from rfl, atI_nat]; rfl
theorem atI_lt {α : Type} {xs : List α} {i : Int} (h0 : 0 ≤ i) (h : i < xs.length) : ∃ x, x ∈ xs ∧ atI xs i = some x ∧ xs[i.toNat]? = some x := by
  have hi : i.toNat < xs.length := by omega
  have e : ((i.toNat : Nat) : Int) = i := by omega
  have q := atI_nat xs i.toNat
  rw [e, List.getElem?_eq_getElem hi] at q
  exact ⟨xs[i.toNat], List.getElem_mem hi, q, List.getElem?_eq_getElem hi⟩
/-! ### stores -/
/-- all but h stays -/
def Chg (h : Nat) (M M' : Sto) : Prop := M.length ≤ M'.length ∧ ∀ i, i < M.length → i ≠ h → M'[i]? = M[i]?
theorem Chg.refl (h : Nat) (M : Sto) : Chg h M M := ⟨Nat.le_refl _, fun _ _ _ => rfl⟩
theorem Chg.trans {h : Nat} {M M1 M2 : Sto} (a : Chg h M M1) (b : Chg h M1 M2) : Chg h M M2 :=
  ⟨Nat.le_trans a.1 b.1, fun i hi hn => (b.2 i (Nat.lt_of_lt_of_le hi a.1) hn).trans (a.2 i hi hn)⟩
theorem Chg.set (h : Nat) (M : Sto) (o : MO) : Chg h M (M.set h o) := ⟨by simp, fun i _ hn => by rw [List.getElem?_set_ne (Ne.symm hn)]⟩
theorem Chg.app (h : Nat) (M J : Sto) : Chg h M (M ++ J) := ⟨by simp, fun i hi _ => List.getElem?_append_left hi⟩
theorem Chg.get {h : Nat} {M M' : Sto} (c : Chg h M M') {i : Nat} {o : MO} (e : M[i]? = some o) (hn : i ≠ h) : M'[i]? = some o := by
  rw [c.2 i (List.getElem?_eq_some_iff.mp e).1 hn, e]
theorem app_at (M : Sto) (o : MO) (J : Sto) : (M ++ o :: J)[M.length]? = some o := by simp
theorem app_old {M : Sto} {i : Nat} {o : MO} (e : M[i]? = some o) (J : Sto) : (M ++ J)[i]? = some o := by
  rw [List.getElem?_append_left (List.getElem?_eq_some_iff.mp e).1]; exact e
/-! ### comprehensions -/
theorem compL_one {ev : Env → Sto → Res (Option D)} {i : Nat} {g : Gd} {σ : Env} (xs : List D) (f : D → Option D) (M : Sto) (hg : okG g M) (h : ∀ x ∈ xs, ev (σ.set i (some x)) M = .ok (f x) M) :
    compL ev (.one i) g σ xs M = .ok (xs.filterMap f) M := by
  induction xs with
  | nil => simp [compL, hg]
  | cons x xs ih =>
    have h1 := h x List.mem_cons_self
    have h2 := ih fun y hy => h y (List.mem_cons_of_mem _ hy)
    simp only [compL, hg, if_true, bindTg, ofO_some, h1, noX_ok, bind_ok, h2]
    cases e : f x <;> simp [List.filterMap_cons, e]
theorem turnC_true {ec ee : Env → Sto → Res D} {σ : Env} {M M' : Sto} {d : D} (hc : ec σ M = .ok (.bl true) M) (he : ee σ M = .ok d M') (hd : homed d = true) : turnC ec ee σ M = .ok (some d) M' := by
  unfold turnC
  rw [hc]
  simp only [bind_ok, onB_bl, if_true, he]
  cases d <;> first | rfl | (simp [homed] at hd)
/-- a comprehension whose turns change the store -/
theorem compL_inv {ev : Env → Sto → Res (Option D)} {tg : Tg} {g : Gd} {σ : Env} (P : Nat → Sto → Prop) (R : D → Prop) : ∀ (xs : List D) (k : Nat) (M : Sto), P k M → (∀ k M, P k M → okG g M) →
    (∀ x ∈ xs, ∀ j M, k ≤ j → j < k + xs.length → P j M → ∃ σ' d M', bindTg tg x σ = some σ' ∧ ev σ' M = .ok (some d) M' ∧ P (j + 1) M' ∧ R d) → ∃ ds M', compL ev tg g σ xs M = .ok ds M' ∧ P (k + xs.length) M' ∧ ds.length = xs.length ∧ ∀ d ∈ ds, R d
  | [], k, M, hp, hg, _ => ⟨[], M, by simp [compL, hg k M hp], hp, rfl, by simp⟩
  | x :: xs, k, M, hp, hg, h => by
    obtain ⟨σ', d, M1, e1, e2, p1, r1⟩ := h x List.mem_cons_self k M (Nat.le_refl _) (by rw [List.length_cons]; omega) hp
    obtain ⟨ds, M2, e3, p2, l2, r2⟩ := compL_inv P R xs (k + 1) M1 p1 hg fun y hy j M h1 h2 => h y (List.mem_cons_of_mem _ hy) j M (by omega) (by rw [List.length_cons]; omega)
    refine ⟨d :: ds, M2, ?_, by rw [List.length_cons]; rwa [show k + (xs.length + 1) = k + 1 + xs.length from by omega], by simp [l2], fun y hy => ?_⟩
    · simp only [compL, hg k M hp, if_true, e1, ofO_some, e2, noX_ok, bind_ok, e3]
    · rcases List.mem_cons.mp hy with rfl | hy
      · exact r1
      · exact r2 y hy
/-- as above, what each item becomes is told -/
theorem compL_map {ev : Env → Sto → Res (Option D)} {tg : Tg} {g : Gd} {σ : Env} (P : Nat → Sto → Prop) (R : D → D → Prop) : ∀ (xs : List D) (k : Nat) (M : Sto), P k M → (∀ k M, P k M → okG g M) →
    (∀ x ∈ xs, ∀ j M, k ≤ j → j < k + xs.length → P j M → ∃ σ' d M', bindTg tg x σ = some σ' ∧ ev σ' M = .ok (some d) M' ∧ P (j + 1) M' ∧ R x d) → ∃ ds M', compL ev tg g σ xs M = .ok ds M' ∧ P (k + xs.length) M' ∧ PySem.W.EachIs R xs ds
  | [], k, M, hp, hg, _ => ⟨[], M, by simp [compL, hg k M hp], hp, .nil⟩
  | x :: xs, k, M, hp, hg, h => by
    obtain ⟨σ', d, M1, e1, e2, p1, r1⟩ := h x List.mem_cons_self k M (Nat.le_refl _) (by rw [List.length_cons]; omega) hp
    obtain ⟨ds, M2, e3, p2, r2⟩ := compL_map P R xs (k + 1) M1 p1 hg fun y hy j M h1 h2 => h y (List.mem_cons_of_mem _ hy) j M (by omega) (by rw [List.length_cons]; omega)
    refine ⟨d :: ds, M2, ?_, by rw [List.length_cons]; rwa [show k + (xs.length + 1) = k + 1 + xs.length from by omega], .cons r1 r2⟩
    simp only [compL, hg k M hp, if_true, e1, ofO_some, e2, noX_ok, bind_ok, e3]
/-! ### loops -/
theorem forL_inv {body : Env → Sto → SRes} {tg : Tg} {g : Gd} (P : Nat → Env → Sto → Prop) : ∀ (xs : List D) (k : Nat) (σ : Env) (M : Sto), P k σ M → (∀ k σ M, P k σ M → okG g M) →
    (∀ x ∈ xs, ∀ j σ M, k ≤ j → j < k + xs.length → P j σ M → ∃ σ' σ2 M2, bindTg tg x σ = some σ' ∧ body σ' M = .nx σ2 M2 ∧ P (j + 1) σ2 M2) → ∃ σ' M', forL body tg g xs σ M = .nx σ' M' ∧ P (k + xs.length) σ' M'
  | [], k, σ, M, hp, hg, _ => ⟨σ, M, by simp [forL, hg k σ M hp], hp⟩
  | x :: xs, k, σ, M, hp, hg, h => by
    obtain ⟨σ', σ2, M2, e1, e2, p2⟩ := h x List.mem_cons_self k σ M (Nat.le_refl _) (by rw [List.length_cons]; omega) hp
    obtain ⟨σ3, M3, e3, p3⟩ := forL_inv P xs (k + 1) σ2 M2 p2 hg fun y hy j σ M h1 h2 => h y (List.mem_cons_of_mem _ hy) j σ M (by omega) (by rw [List.length_cons]; omega)
    refine ⟨σ3, M3, ?_, by rw [List.length_cons]; rwa [show k + (xs.length + 1) = k + 1 + xs.length from by omega]⟩
    simp only [forL, hg k σ M hp, if_true, e1, e2, e3]
theorem rng_len (lo : Int) (n : Nat) : (rngD lo n).length = n := by simp [rngD]
theorem rng_mem {lo : Int} {n : Nat} {x : D} (h : x ∈ rngD lo n) : ∃ k : Nat, k < n ∧ x = .int (lo + k) := by
  unfold rngD at h
  obtain ⟨k, hk, rfl⟩ := List.mem_map.mp h
  exact ⟨k, List.mem_range.mp hk, rfl⟩
end MI
namespace MI
open PySem
/-- a loop that may end by return -/
theorem forL_ret {body : Env → Sto → SRes} {tg : Tg} {g : Gd} (P : Nat → Env → Sto → Prop) (R : Nat → D → Sto → Prop) : ∀ (xs : List D) (k : Nat) (σ : Env) (M : Sto), P k σ M → (∀ k σ M, P k σ M → okG g M) →
    (∀ x ∈ xs, ∀ j σ M, k ≤ j → j < k + xs.length → P j σ M → ∃ σ', bindTg tg x σ = some σ' ∧ ((∃ σ2 M2, body σ' M = .nx σ2 M2 ∧ P (j + 1) σ2 M2) ∨ ∃ d M2, body σ' M = .ret d M2 ∧ R (j + 1) d M2)) →
    (∃ σ' M', forL body tg g xs σ M = .nx σ' M' ∧ P (k + xs.length) σ' M') ∨ ∃ j d M', j ≤ k + xs.length ∧ forL body tg g xs σ M = .ret d M' ∧ R j d M'
  | [], k, σ, M, hp, hg, _ => .inl ⟨σ, M, by simp [forL, hg k σ M hp], hp⟩
  | x :: xs, k, σ, M, hp, hg, h => by
    obtain ⟨σ', e1, h1⟩ := h x List.mem_cons_self k σ M (Nat.le_refl _) (by rw [List.length_cons]; omega) hp
    rcases h1 with ⟨σ2, M2, e2, p2⟩ | ⟨d, M2, e2, r2⟩
    · rcases forL_ret P R xs (k + 1) σ2 M2 p2 hg fun y hy j σ M h1 h2 => h y (List.mem_cons_of_mem _ hy) j σ M (by omega) (by rw [List.length_cons]; omega) with ⟨σ3, M3, e3, p3⟩ | ⟨j, d, M3, hj, e3, r3⟩
      · refine .inl ⟨σ3, M3, ?_, by rw [List.length_cons]; rwa [show k + (xs.length + 1) = k + 1 + xs.length from by omega]⟩
        simp only [forL, hg k σ M hp, if_true, e1, e2, e3]
      · refine .inr ⟨j, d, M3, by rw [List.length_cons]; omega, ?_, r3⟩
        simp only [forL, hg k σ M hp, if_true, e1, e2, e3]
    · exact .inr ⟨k + 1, d, M2, by rw [List.length_cons]; omega, by simp only [forL, hg k σ M hp, if_true, e1, e2], r2⟩
theorem pow_ok {i j : Int} (h : 0 ≤ j) (h2 : j ≤ 1000) (h3 : i.natAbs < 1000) (M : Sto) : binop .pow (.int i) (.int j) M = .ok (.int (i ^ j.toNat)) M := by
  simp only [binop]; rw [if_pos ⟨h, by omega, by omega⟩]
theorem natAbs_lt {i : Int} {n : Nat} (h0 : 0 ≤ i) (h : i < n) : i.natAbs < n := by omega
/-! ### the three numbers of a store -/
def Pot (M : Sto) (h : Nat) (c : Nat) : Prop := ∃ a b s : Int, M[h]? = some (.lst [.int a, .int b, .int s]) ∧ 0 ≤ a ∧ a < 2 ^ 1000 ∧ 0 ≤ b ∧ b < 2147483647 ∧ 0 ≤ s ∧ s ≤ c
theorem Pot.mono {M : Sto} {h c c' : Nat} (p : Pot M h c) (hc : c ≤ c') : Pot M h c' := by
  obtain ⟨a, b, s, e, h1, h2, h3, h4, h5, h6⟩ := p
  exact ⟨a, b, s, e, h1, h2, h3, h4, h5, by omega⟩
theorem Pot.app {M : Sto} {h c : Nat} (p : Pot M h c) (J : Sto) : Pot (M ++ J) h c := by
  obtain ⟨a, b, s, e, r⟩ := p
  exact ⟨a, b, s, app_old e J, r⟩
theorem Pot.lt {M : Sto} {h c : Nat} (p : Pot M h c) : h < M.length := by
  obtain ⟨a, b, s, e, r⟩ := p
  exact (List.getElem?_eq_some_iff.mp e).1
/-- the draw's text -/
def pickB : S := (.seq (.ife (.cmp .gt (.ix (.var 0) (.int 0)) (.int 0)) (.seq (.asg 2 (.bin .mod (.ix (.var 0) (.int 0)) (.var 1)))
  (.seq (.asgIx (.var 0) (.int 0) (.bin .fdiv (.ix (.var 0) (.int 0)) (.var 1)))
  (.seq (.ret (.var 2))
  .nop))) .nop)
  (.seq (.asgIx (.var 0) (.int 2) (.bin .add (.ix (.var 0) (.int 2)) (.int 1)))
  (.seq (.asg 3 (.bin .mod (.bin .mul (.bin .add (.bin .add (.ix (.var 0) (.int 1)) (.bin .mul (.int 6373) (.ix (.var 0) (.int 2)))) (.int 5)) (.int 48271)) (.int 2147483647)))
  (.seq (.asg 3 (.bin .mod (.bin .mul (.var 3) (.bin .add (.bin .fdiv (.var 3) (.int 1013)) (.int 65539))) (.int 2147483647)))
  (.seq (.asg 3 (.bin .mod (.bin .mul (.var 3) (.bin .add (.bin .fdiv (.var 3) (.int 3001)) (.int 40699))) (.int 2147483629)))
  (.seq (.ret (.bin .mod (.bin .fdiv (.var 3) (.int 3)) (.var 1)))
  .nop))))))
theorem pick_body (O : Orc) {M : Sto} {h c : Nat} {m : Int} (p : Pot M h c) (hc : c < 10 ^ 30) (hm : 0 < m) (hm2 : m < 1000000000000) :
    ∃ k M', 0 ≤ k ∧ k < m ∧ ended (evS O none pickB [some (.ref h), some (.int m), none, none] M) = .ok (.int k) M' ∧ Pot M' h (c + 1) ∧ Chg h M M' := by
  obtain ⟨a, b, s, e, ha, ha2, hb, hb2, hs, hs2⟩ := p
  have hl : h < M.length := (List.getElem?_eq_some_iff.mp e).1
  by_cases h0 : 0 < a
  · refine ⟨a % m, M.set h (.lst [.int (a / m), .int b, .int s]), Int.emod_nonneg _ (by omega), Int.emod_lt_of_pos _ hm, ?_, ⟨a / m, b, s, by simp [hl], Int.ediv_nonneg ha (by omega), ?_, hb, hb2, hs, by omega⟩, Chg.set ..⟩
    · simp [pickB, ix_ref e, atI_0, h0, mod_ok hm, fdiv_ok hm hm2, setix_ref e, ixN]
    · exact Int.lt_of_le_of_lt (Int.ediv_le_self _ ha) ha2
  · have e2 : (M.set h (.lst [.int a, .int b, .int (s + 1)]))[h]? = some (.lst [.int a, .int b, .int (s + 1)]) := by simp [hl]
    have x1 : (6373 : Int).natAbs < 2 ^ 2000 := Nat.lt_of_lt_of_le (by decide : 6373 < 2 ^ 20) (Nat.pow_le_pow_right (by decide) (by decide))
    have big : ∀ {i : Int}, 0 ≤ i → i < 10 ^ 60 → i.natAbs < 2 ^ 2000 := fun {i} h1 h2 => by
      have h3 : i.natAbs < 10 ^ 60 := by omega
      exact Nat.lt_of_lt_of_le h3 (Nat.le_trans (by decide : 10 ^ 60 ≤ 2 ^ 200) (Nat.pow_le_pow_right (by decide) (by decide)))
    have m1 : binop .mul (.int 6373) (.int (s + 1)) (M.set h (.lst [.int a, .int b, .int (s + 1)])) = .ok (.int (6373 * (s + 1))) (M.set h (.lst [.int a, .int b, .int (s + 1)])) := mul_ok x1 (big (by omega) (by omega)) _
    have m2 : binop .mul (.int (b + 6373 * (s + 1) + 5)) (.int 48271) (M.set h (.lst [.int a, .int b, .int (s + 1)])) = .ok (.int ((b + 6373 * (s + 1) + 5) * 48271)) (M.set h (.lst [.int a, .int b, .int (s + 1)])) := mul_ok (big (by omega) (by omega)) (big (by decide) (by decide)) _
    generalize hn1 : (b + 6373 * (s + 1) + 5) * 48271 % 2147483647 = n1 at *
    have n1a : 0 ≤ n1 := by omega
    have n1b : n1 < 2147483647 := by omega
    have m3 : binop .mul (.int n1) (.int (n1 / 1013 + 65539)) (M.set h (.lst [.int a, .int b, .int (s + 1)])) = .ok (.int (n1 * (n1 / 1013 + 65539))) (M.set h (.lst [.int a, .int b, .int (s + 1)])) := mul_ok (big n1a (by omega)) (big (by omega) (by omega)) _
    generalize hn2 : n1 * (n1 / 1013 + 65539) % 2147483647 = n2 at *
    have n2a : 0 ≤ n2 := by rw [← hn2]; exact Int.emod_nonneg _ (by decide)
    have n2b : n2 < 2147483647 := by rw [← hn2]; exact Int.emod_lt_of_pos _ (by decide)
    have m4 : binop .mul (.int n2) (.int (n2 / 3001 + 40699)) (M.set h (.lst [.int a, .int b, .int (s + 1)])) = .ok (.int (n2 * (n2 / 3001 + 40699))) (M.set h (.lst [.int a, .int b, .int (s + 1)])) := mul_ok (big n2a (by omega)) (big (by omega) (by omega)) _
    generalize hn3 : n2 * (n2 / 3001 + 40699) % 2147483629 = n3 at *
    refine ⟨n3 / 3 % m, M.set h (.lst [.int a, .int b, .int (s + 1)]), Int.emod_nonneg _ (by omega), Int.emod_lt_of_pos _ hm, ?_, ⟨a, b, s + 1, e2, ha, ha2, hb, hb2, by omega, by omega⟩, Chg.set ..⟩
    simp [pickB, ix_ref e, ix_ref e2, atI_0, atI_1, atI_2, h0, mod_ok, fdiv_ok, setix_ref e, ixN, m1, m2, hn1, m3, hn2, m4, hn3, hm]
end MI
namespace MI
open PySem
@[simp] theorem bi_tuple_lst (xs : List D) (M : Sto) : bi .tuple [.lst xs] M = .ok (.tup xs) M := rfl
theorem bi_tuple_ref {M : Sto} {h : Nat} {xs : List D} (e : M[h]? = some (.lst xs)) : bi .tuple [.ref h] M = .ok (.tup xs) M := by simp [bi, items, e]
@[simp] theorem bi_list_tup (xs : List D) (M : Sto) : bi .list [.tup xs] M = .ok (.lst xs) M := rfl
theorem intsOf_map {α : Type} (f : α → Int) (xs : List α) : intsOf (xs.map fun x => .int (f x)) = some (xs.map f) := by
  induction xs with
  | nil => rfl
  | cons x r ih => simp [intsOf, ih]
theorem bi_sum_lst {α : Type} (f : α → Int) (xs : List α) (M : Sto) : bi .sum [.lst (xs.map fun x => .int (f x))] M = .ok (.int (xs.map f).sum) M := by
  simp [bi, lstItems, isTup, items, intsOf_map]
@[simp] theorem bi_int_bl (b : Bool) (M : Sto) : bi .int [.bl b] M = .ok (.int (if b = true then 1 else 0)) M := rfl
@[simp] theorem bi_min2 (i j : Int) (M : Sto) : bi .min2 [.int i, .int j] M = .ok (.int (if j < i then j else i)) M := rfl
@[simp] theorem bi_len_frl (xs : List D) (M : Sto) : bi .len [.frl xs] M = .ok (.int xs.length) M := rfl
@[simp] theorem bi_len_lst (xs : List D) (M : Sto) : bi .len [.lst xs] M = .ok (.int xs.length) M := rfl
@[simp] theorem bi_len_tup (xs : List D) (M : Sto) : bi .len [.tup xs] M = .ok (.int xs.length) M := rfl
theorem bi_len_ref {M : Sto} {h : Nat} {xs : List D} (e : M[h]? = some (.lst xs)) : bi .len [.ref h] M = .ok (.int xs.length) M := by simp [bi, dicOf, items, e]
/-! texts in a set -/
def kS (s : List Nat) : L2.Key := .inr ⟨s.toArray⟩
theorem keyD_kS (s : List Nat) : keyD (kS s) = .str s := by simp [keyD, kS]
theorem strs_kS (ws : List (List Nat)) : ws.map D.str = (ws.map kS).map keyD := by
  rw [List.map_map]
  exact List.map_congr_left fun s _ => (keyD_kS s).symm
theorem sortset_strs (ws : List (List Nat)) : ∃ zs : List (List Nat), sortD (dedD (ws.map D.str)) = zs.map D.str ∧ zs.Nodup := by
  rw [strs_kS, dedU_D, sortK_D]
  have hp : (sortK (dedU (ws.map kS))).Perm (dedU (ws.map kS)) := List.mergeSort_perm _ _
  have hn : (sortK (dedU (ws.map kS))).Nodup := hp.nodup_iff.mpr (dedU_nodup _)
  have hm : ∀ k ∈ sortK (dedU (ws.map kS)), ∃ s, k = kS s := fun k hk => by
    have := dedU_mem _ _ (hp.mem_iff.mp hk)
    obtain ⟨s, _, e⟩ := List.mem_map.mp this
    exact ⟨s, e.symm⟩
  generalize sortK (dedU (ws.map kS)) = L at hn hm
  have go : ∀ L : List L2.Key, (∀ k ∈ L, ∃ s, k = kS s) → ∃ zs : List (List Nat), L = zs.map kS := by
    intro L
    induction L with
    | nil => intro _; exact ⟨[], rfl⟩
    | cons k r ih =>
      intro h
      obtain ⟨s, rfl⟩ := h k List.mem_cons_self
      obtain ⟨zs, rfl⟩ := ih fun y hy => h y (List.mem_cons_of_mem _ hy)
      exact ⟨s :: zs, rfl⟩
  obtain ⟨zs, rfl⟩ := go L hm
  exact ⟨zs, (strs_kS zs).symm, L2.nodup_of_map hn⟩
theorem bi_sortset_strs (ws : List (List Nat)) (h : ws.length < 4000) (M : Sto) : bi .sortset [.lst (ws.map D.str)] M = .ok (.lst (sortD (dedD (ws.map D.str)))) M := by
  have f : (ws.map D.str).all isS = true := by rw [List.all_map]; exact List.all_eq_true.mpr fun _ _ => rfl
  simp only [bi, lstItems, isTup, items]
  simp only [Bool.false_eq_true, if_false, ofO_some]
  rw [if_pos ⟨.inr f, by simpa using h⟩]
theorem unstr : ∀ {ds : List D}, (∀ x ∈ ds, ∃ w, x = .str w) → ∃ ws : List (List Nat), ds = ws.map D.str ∧ ws.length = ds.length
  | [], _ => ⟨[], rfl, rfl⟩
  | x :: ds, h => by
    obtain ⟨w, rfl⟩ := h x List.mem_cons_self
    obtain ⟨ws, rfl, h5⟩ := unstr fun y hy => h y (List.mem_cons_of_mem _ hy)
    exact ⟨w :: ws, rfl, by simp⟩
/-! dict of pairs with texts ahead -/
def prsD (ps : List (List Nat × D)) : List D := ps.map fun p => .tup [.str p.1, p.2]
theorem pairs_prs (ps : List (List Nat × D)) : pairsD (prsD ps) = true ∧ pairP (prsD ps) = ps.map fun p => (.str p.1, p.2) := by
  induction ps with
  | nil => exact ⟨rfl, rfl⟩
  | cons p r ih =>
    refine ⟨?_, ?_⟩
    · unfold prsD pairsD; rw [List.map_cons, List.all_cons]; exact Bool.and_eq_true _ _ ▸ ⟨rfl, ih.1⟩
    · unfold prsD; rw [List.map_cons]; unfold pairP; exact congrArg _ ih.2
theorem merge_prs (ps : List (List Nat × D)) (hn : (ps.map (·.1)).Nodup) : mergeP (ps.map fun p => (D.str p.1, p.2)) = ps.map fun p => (D.str p.1, p.2) := by
  have : ∀ (ps acc : List (List Nat × D)), ((acc ++ ps).map (·.1)).Nodup → (ps.map fun p => (D.str p.1, p.2)).foldl (fun acc p => putP acc p.1 p.2) (acc.map fun p => (D.str p.1, p.2)) = (acc ++ ps).map fun p => (D.str p.1, p.2) := by
    intro ps
    induction ps with
    | nil => intro acc _; simp
    | cons p r ih =>
      intro acc hn
      have hq : ∀ q ∈ acc, q.1 ≠ p.1 := by
        intro q hq e
        rw [List.map_append, List.nodup_append] at hn
        exact hn.2.2 q.1 (List.mem_map.mpr ⟨q, hq, rfl⟩) p.1 (by simp) e
      have hany : ((acc.map fun p => (D.str p.1, p.2)).any fun z => deq z.1 (.str p.1)) = false := by
        rw [List.any_map, List.any_eq_false]
        intro q hm
        simp [deq, hq q hm]
      rw [List.map_cons, List.foldl_cons]
      have e : putP (acc.map fun p => (D.str p.1, p.2)) (.str p.1) p.2 = (acc ++ [p]).map fun p => (D.str p.1, p.2) := by
        unfold putP
        rw [hany]
        simp
      rw [e, ih (acc ++ [p]) (by simpa using hn)]
      simp
  exact this ps [] hn
theorem bi_dict_prs (ps : List (List Nat × D)) (hn : (ps.map (·.1)).Nodup) (hl : ps.length < 4000) (M : Sto) : bi .dict [.tup (prsD ps)] M = .ok (.dic false (ps.map fun p => .str p.1) (ps.map (·.2))) M := by
  obtain ⟨h1, h2⟩ := pairs_prs ps
  have hl' : (prsD ps).length < 4000 := by unfold prsD; simpa using hl
  simp only [bi, items, ofO_some]
  rw [if_pos ⟨h1, hl'⟩, h2, merge_prs ps hn]
  simp
theorem dget_prs (w : List Nat) : ∀ ps : List (List Nat × D), dget (.str w) (ps.map fun p => .str p.1) (ps.map (·.2)) = (ps.find? fun p => decide (p.1 = w)).map (·.2)
  | [] => rfl
  | p :: r => by
    rw [List.map_cons, List.map_cons, dget, List.find?_cons]
    simp only [deq, beq_iff_eq]
    by_cases h : p.1 = w
    · simp [h]
    · simp [h, dget_prs w r]
end MI
namespace MI
open PySem
theorem in_dic {M : Sto} {h : Nat} {ks vs : List D} (e : M[h]? = some (.dic false ks vs)) (s : List Nat) : inO M (.str s) (.ref h) = some (dget (.str s) ks vs).isSome := by
  simp only [inO, dicOf, e, keyFor, keyOk, Bool.false_eq_true, if_false, if_true]
theorem ix_dic {M : Sto} {h : Nat} {ks vs : List D} (e : M[h]? = some (.dic false ks vs)) (s : List Nat) : ixop (.ref h) (.str s) M = ofO (dget (.str s) ks vs) fun v => .ok v M := by
  simp only [ixop, dicOf, e, keyFor, keyOk, Bool.false_eq_true, if_false, if_true]
theorem count_bls {M : Sto} {h : Nat} {bs : List Bool} (e : M[h]? = some (.lst (bs.map D.bl))) : meth .count (.ref h) [.bl true] M = .ok (.int ((bs.count true : Nat) : Int)) M := by
  have f : (bs.map D.bl).all flat = true := by rw [List.all_map]; exact List.all_eq_true.mpr fun _ _ => rfl
  have cnt : (bs.map D.bl).countP (fun z => deq z (.bl true)) = bs.count true := by
    rw [List.countP_map, List.count]
    exact List.countP_congr fun b _ => by simp [deq]
  simp only [meth, lstItems, isTup, items, e, Bool.false_eq_true, if_false, ofO_some]
  rw [if_pos ⟨rfl, f⟩, cnt]
theorem isMT_lst {M : Sto} {h : Nat} {xs : List D} (e : M[h]? = some (.lst xs)) : isMT .lst (.ref h) M = true := by simp [isMT, lstItems, isTup, items, e]
end MI

set_option Elab.async false
set_option linter.all false
set_option maxRecDepth 100000
namespace K08
open PySem PySem.Spec PyProof.Rows L2 MI
/-- has_mark -/
def b_has_mark : S := (.seq (.ret (.cmp .inO (.var 1) (.ix (.var 0) (.int 2))))
  .nop)
def f_has_mark : FnI := ⟨"has_mark", ["card", "word"], ["card", "word"], b_has_mark⟩
/-- size_of -/
def b_size_of : S := (.seq (.for_ (.tup [2, 3]) (.it (.ix (.var 0) (.int 3))) (.seq (.ife (.cmp .eq (.var 2) (.var 1)) (.seq (.ret (.var 3))
  .nop) .nop)
  .nop))
  (.seq (.ret .non)
  .nop))
def f_size_of : FnI := ⟨"size_of", ["card", "word"], ["card", "word", "name", "number"], b_size_of⟩
/-- lets_size -/
def b_lets_size : S := (.seq (.ife (.cmp .isO (.var 1) .non) (.seq (.ret (.bl false))
  .nop) .nop)
  (.seq (.ife (.cmp .eq (.ix (.var 0) (.int 0)) (.str [108, 101, 97, 115, 116])) (.seq (.ret (.cmp .ge (.var 1) (.ix (.var 0) (.int 2))))
  .nop) .nop)
  (.seq (.ret (.cmp .le (.var 1) (.ix (.var 0) (.int 2))))
  .nop)))
def f_lets_size : FnI := ⟨"lets_size", ["wish", "number"], ["wish", "number"], b_lets_size⟩
/-- lets -/
def b_lets : S := (.seq (.asg 2 (.ix (.var 0) (.int 0)))
  (.seq (.ife (.cmp .eq (.var 2) (.str [97, 110, 121])) (.seq (.ret (.bl true))
  .nop) .nop)
  (.seq (.ife (.cmp .eq (.var 2) (.str [105, 115])) (.seq (.ret (.call 0 (.cons (.var 1) (.cons (.ix (.var 0) (.int 1)) .nil))))
  .nop) .nop)
  (.seq (.ife (.cmp .eq (.var 2) (.str [98, 121])) (.seq (.ret (.cmp .eq (.ix (.var 1) (.int 0)) (.ix (.var 0) (.int 1))))
  .nop) .nop)
  (.seq (.ife (.cmp .inO (.var 2) (.tup (.cons (.str [108, 101, 97, 115, 116]) (.cons (.str [109, 111, 115, 116]) .nil)))) (.seq (.ret (.call 2 (.cons (.var 0) (.cons (.call 1 (.cons (.var 1) (.cons (.ix (.var 0) (.int 1)) .nil))) .nil))))
  .nop) .nop)
  (.seq (.ife (.cmp .eq (.var 2) (.str [110, 111, 116])) (.seq (.ret (.not (.call 3 (.cons (.ix (.var 0) (.int 1)) (.cons (.var 1) .nil)))))
  .nop) .nop)
  (.seq (.ife (.cmp .eq (.var 2) (.str [97, 110, 100])) (.seq (.ret (.bi .all (.cons (.comp (.call 3 (.cons (.var 3) (.cons (.var 1) .nil))) (.one 3) (.it (.ix (.var 0) (.int 1))) (.bl true) [3]) .nil)))
  .nop) .nop)
  (.seq (.ret (.bi .any (.cons (.comp (.call 3 (.cons (.var 3) (.cons (.var 1) .nil))) (.one 3) (.it (.ix (.var 0) (.int 1))) (.bl true) [3]) .nil)))
  .nop))))))))
def f_lets : FnI := ⟨"lets", ["wish", "card"], ["wish", "card", "word", "one"], b_lets⟩
/-- _law_cell -/
def b__law_cell : S := (.seq (.ife (.cmp .lt (.var 1) (.bi .len (.cons (.var 0) .nil))) (.seq (.ret (.ix (.var 0) (.var 1)))
  .nop) .nop)
  (.seq (.ret (.int 0))
  .nop))
def f__law_cell : FnI := ⟨"_law_cell", ["_law_script", "_law_k"], ["_law_script", "_law_k"], b__law_cell⟩
/-- _law_store -/
def b__law_store : S := (.seq (.asg 1 (.bin .pow (.int 10) (.int 60)))
  (.seq (.asg 2 (.bin .mod (.var 0) (.bin .mul (.bin .mul (.bin .mul (.bin .mul (.var 1) (.var 1)) (.var 1)) (.var 1)) (.var 1))))
  (.seq (.ret (.lst (.cons (.bin .mul (.var 2) (.bi .int (.cons (.cmp .ge (.var 0) (.bin .pow (.int 10) (.int 18))) .nil))) (.cons (.bin .mod (.var 0) (.int 2147483647)) (.cons (.int 0) .nil)))))
  .nop)))
def f__law_store : FnI := ⟨"_law_store", ["_law_cell_here"], ["_law_cell_here", "_law_wide", "_law_digits"], b__law_store⟩
/-- _law_pick -/
def b__law_pick : S := (.seq (.ife (.cmp .gt (.ix (.var 0) (.int 0)) (.int 0)) (.seq (.asg 2 (.bin .mod (.ix (.var 0) (.int 0)) (.var 1)))
  (.seq (.asgIx (.var 0) (.int 0) (.bin .fdiv (.ix (.var 0) (.int 0)) (.var 1)))
  (.seq (.ret (.var 2))
  .nop))) .nop)
  (.seq (.asgIx (.var 0) (.int 2) (.bin .add (.ix (.var 0) (.int 2)) (.int 1)))
  (.seq (.asg 3 (.bin .mod (.bin .mul (.bin .add (.bin .add (.ix (.var 0) (.int 1)) (.bin .mul (.int 6373) (.ix (.var 0) (.int 2)))) (.int 5)) (.int 48271)) (.int 2147483647)))
  (.seq (.asg 3 (.bin .mod (.bin .mul (.var 3) (.bin .add (.bin .fdiv (.var 3) (.int 1013)) (.int 65539))) (.int 2147483647)))
  (.seq (.asg 3 (.bin .mod (.bin .mul (.var 3) (.bin .add (.bin .fdiv (.var 3) (.int 3001)) (.int 40699))) (.int 2147483629)))
  (.seq (.ret (.bin .mod (.bin .fdiv (.var 3) (.int 3)) (.var 1)))
  .nop))))))
def f__law_pick : FnI := ⟨"_law_pick", ["_law_store_here", "_law_many"], ["_law_store_here", "_law_many", "_law_found", "_law_number_here"], b__law_pick⟩
/-- _law_word -/
def b__law_word : S := (.seq (.ret (.ix (.lst (.cons (.str [114, 121, 101]) (.cons (.str [111, 108, 100]) (.cons (.str [97]) (.cons (.str [97, 110]) (.cons (.str [97, 110, 100, 121]) (.cons (.str [112, 114, 105, 99, 101]) .nil))))))) (.call 6 (.cons (.var 0) (.cons (.int 6) .nil)))))
  .nop)
def f__law_word : FnI := ⟨"_law_word", ["_law_store_here"], ["_law_store_here"], b__law_word⟩
/-- _law_number -/
def b__law_number : S := (.seq (.ret (.ix (.lst (.cons (.int 0) (.cons (.int 1) (.cons (.int 2) (.cons (.int 3) (.cons (.bin .sub (.bin .pow (.int 10) (.int 9)) (.int 1)) (.cons (.bin .pow (.int 10) (.int 9)) .nil))))))) (.call 6 (.cons (.var 0) (.cons (.int 6) .nil)))))
  .nop)
def f__law_number : FnI := ⟨"_law_number", ["_law_store_here"], ["_law_store_here"], b__law_number⟩
/-- _law_leaf -/
def b__law_leaf : S := (.seq (.asg 1 (.call 6 (.cons (.var 0) (.cons (.int 6) .nil))))
  (.seq (.ife (.cmp .eq (.var 1) (.int 0)) (.seq (.ret (.tup (.cons (.str [97, 110, 121]) .nil)))
  .nop) .nop)
  (.seq (.ife (.cmp .lt (.var 1) (.int 3)) (.seq (.ret (.tup (.cons (.ix (.lst (.cons (.str [105, 115]) (.cons (.str [98, 121]) .nil))) (.bin .sub (.var 1) (.int 1))) (.cons (.call 7 (.cons (.var 0) .nil)) .nil))))
  .nop) .nop)
  (.seq (.ret (.tup (.cons (.ix (.lst (.cons (.str [108, 101, 97, 115, 116]) (.cons (.str [109, 111, 115, 116]) .nil))) (.bin .mod (.var 1) (.int 2))) (.cons (.call 7 (.cons (.var 0) .nil)) (.cons (.call 8 (.cons (.var 0) .nil)) .nil)))))
  .nop))))
def f__law_leaf : FnI := ⟨"_law_leaf", ["_law_store_here"], ["_law_store_here", "_law_way"], b__law_leaf⟩
/-- _law_wish -/
def b__law_wish : S := (.seq (.asg 2 (.call 6 (.cons (.var 0) (.cons (.int 6) .nil))))
  (.seq (.ife (.or (.cmp .eq (.var 1) (.int 1)) (.cmp .lt (.var 2) (.int 2))) (.seq (.ret (.call 9 (.cons (.var 0) .nil)))
  .nop) .nop)
  (.seq (.ife (.cmp .eq (.var 2) (.int 2)) (.seq (.ret (.tup (.cons (.str [110, 111, 116]) (.cons (.call 10 (.cons (.var 0) (.cons (.bin .sub (.var 1) (.int 1)) .nil))) .nil))))
  .nop) .nop)
  (.seq (.asg 3 (.bin .add (.int 2) (.call 6 (.cons (.var 0) (.cons (.ix (.lst (.cons (.int 2) (.cons (.int 2) (.cons (.int 5) .nil)))) (.call 6 (.cons (.var 0) (.cons (.int 3) .nil)))) .nil)))))
  (.seq (.ret (.tup (.cons (.ix (.lst (.cons (.str [97, 110, 100]) (.cons (.str [111, 114]) .nil))) (.bin .mod (.var 2) (.int 2))) (.cons (.bi .tuple (.cons (.comp (.call 10 (.cons (.var 0) (.cons (.bin .sub (.var 1) (.int 1)) .nil))) (.one 4) (.range1 (.var 3)) (.bl true) [4]) .nil)) .nil))))
  .nop)))))
def f__law_wish : FnI := ⟨"_law_wish", ["_law_store_here", "_law_deep"], ["_law_store_here", "_law_deep", "_law_way", "_law_many", "_law_k"], b__law_wish⟩
/-- _law_parts -/
def b__law_parts : S := (.seq (.ife (.cmp .eq (.ix (.var 0) (.int 0)) (.str [110, 111, 116])) (.seq (.ret (.bin .add (.int 1) (.call 11 (.cons (.ix (.var 0) (.int 1)) .nil))))
  .nop) .nop)
  (.seq (.ife (.cmp .inO (.ix (.var 0) (.int 0)) (.tup (.cons (.str [97, 110, 100]) (.cons (.str [111, 114]) .nil)))) (.seq (.ret (.bin .add (.int 1) (.bi .sum (.cons (.comp (.call 11 (.cons (.var 1) .nil)) (.one 1) (.it (.ix (.var 0) (.int 1))) (.bl true) [1]) .nil))))
  .nop) .nop)
  (.seq (.ret (.int 1))
  .nop)))
def f__law_parts : FnI := ⟨"_law_parts", ["_law_wish_here"], ["_law_wish_here", "_law_one"], b__law_parts⟩
/-- _law_good -/
def b__law_good : S := (.seq (.asg 1 (.bin .add (.int 1) (.call 6 (.cons (.var 0) (.cons (.int 6) .nil)))))
  (.seq (.for_ (.one 2) (.range1 (.int 6)) (.seq (.asg 3 (.call 10 (.cons (.var 0) (.cons (.var 1) .nil))))
  (.seq (.ife (.cmp .le (.call 11 (.cons (.var 3) .nil)) (.int 40)) (.seq (.ret (.var 3))
  .nop) .nop)
  (.seq (.asg 1 (.bi .min2 (.cons (.var 1) (.cons (.int 3) .nil))))
  .nop))))
  (.seq (.ret (.tup (.cons (.str [110, 111, 116]) (.cons (.call 9 (.cons (.var 0) .nil)) .nil))))
  .nop)))
def f__law_good : FnI := ⟨"_law_good", ["_law_store_here"], ["_law_store_here", "_law_deep", "_law_turn", "_law_wish_here"], b__law_good⟩
/-- _law_card -/
def b__law_card : S := (.seq (.asg 1 (.bi .sortset (.cons (.comp (.call 7 (.cons (.var 0) .nil)) (.one 2) (.range1 (.call 6 (.cons (.var 0) (.cons (.int 5) .nil)))) (.bl true) [2]) .nil)))
  (.seq (.asg 3 (.bi .sortset (.cons (.comp (.call 7 (.cons (.var 0) .nil)) (.one 2) (.range1 (.call 6 (.cons (.var 0) (.cons (.int 5) .nil)))) (.bl true) [2]) .nil)))
  (.seq (.asg 3 (.bi .tuple (.cons (.comp (.tup (.cons (.var 4) (.cons (.call 8 (.cons (.var 0) .nil)) .nil))) (.one 4) (.it (.var 3)) (.bl true) [4]) .nil)))
  (.seq (.ret (.tup (.cons (.call 7 (.cons (.var 0) .nil)) (.cons (.call 7 (.cons (.var 0) .nil)) (.cons (.bi .tuple (.cons (.var 1) .nil)) (.cons (.var 3) .nil))))))
  .nop))))
def f__law_card : FnI := ⟨"_law_card", ["_law_store_here"], ["_law_store_here", "_law_marks", "_law_k", "_law_sizes", "_law_word_here"], b__law_card⟩
/-- _law_lets -/
def b__law_lets : S := (.seq (.ife (.cmp .inO (.ix (.var 0) (.int 0)) (.tup (.cons (.str [97, 110, 121]) (.cons (.str [105, 115]) (.cons (.str [98, 121]) .nil))))) (.seq (.ret (.or (.cmp .eq (.ix (.var 0) (.int 0)) (.str [97, 110, 121])) (.cmp .inO (.ix (.var 0) (.int 1)) (.ix (.lst (.cons (.bi .list (.cons (.ix (.var 1) (.int 2)) .nil)) (.cons (.lst (.cons (.ix (.var 1) (.int 0)) .nil)) .nil))) (.bi .int (.cons (.cmp .eq (.ix (.var 0) (.int 0)) (.str [98, 121])) .nil))))))
  .nop) .nop)
  (.seq (.ife (.cmp .inO (.ix (.var 0) (.int 0)) (.tup (.cons (.str [108, 101, 97, 115, 116]) (.cons (.str [109, 111, 115, 116]) .nil)))) (.seq (.asg 2 (.bi .dict (.cons (.ix (.var 1) (.int 3)) .nil)))
  (.seq (.ife (.cmp .notin (.ix (.var 0) (.int 1)) (.var 2)) (.seq (.ret (.bl false))
  .nop) .nop)
  (.seq (.ret (.ix (.lst (.cons (.cmp .le (.ix (.var 2) (.ix (.var 0) (.int 1))) (.ix (.var 0) (.int 2))) (.cons (.cmp .ge (.ix (.var 2) (.ix (.var 0) (.int 1))) (.ix (.var 0) (.int 2))) .nil))) (.bi .int (.cons (.cmp .eq (.ix (.var 0) (.int 0)) (.str [108, 101, 97, 115, 116])) .nil))))
  .nop))) .nop)
  (.seq (.ife (.cmp .eq (.ix (.var 0) (.int 0)) (.str [110, 111, 116])) (.seq (.ret (.not (.call 14 (.cons (.ix (.var 0) (.int 1)) (.cons (.var 1) .nil)))))
  .nop) .nop)
  (.seq (.asg 3 (.comp (.call 14 (.cons (.var 4) (.cons (.var 1) .nil))) (.one 4) (.it (.ix (.var 0) (.int 1))) (.bl true) [4]))
  (.seq (.ret (.cmp .ge (.meth .count (.var 3) (.cons (.bl true) .nil)) (.ix (.lst (.cons (.int 1) (.cons (.bi .len (.cons (.var 3) .nil)) .nil))) (.bi .int (.cons (.cmp .eq (.ix (.var 0) (.int 0)) (.str [97, 110, 100])) .nil)))))
  .nop)))))
def f__law_lets : FnI := ⟨"_law_lets", ["_law_wish_here", "_law_card_here"], ["_law_wish_here", "_law_card_here", "_law_some", "_law_told", "_law_one"], b__law_lets⟩
/-- law -/
def b_law : S := (.seq (.asg 1 (.lst .nil))
  (.seq (.for_ (.one 2) (.it (.bin .add (.lst (.cons (.call 4 (.cons (.var 0) (.cons (.int 0) .nil))) .nil)) (.sl true true (.var 0) (.int 1) (.int 25)))) (.seq (.asg 3 (.call 5 (.cons (.var 2) .nil)))
  (.seq (.asg 4 (.call 12 (.cons (.var 3) .nil)))
  (.seq (.for_ (.one 5) (.range1 (.int 5)) (.seq (.asg 6 (.call 13 (.cons (.var 3) .nil)))
  (.seq (.asg 7 (.call 14 (.cons (.var 4) (.cons (.var 6) .nil))))
  (.seq (.expr (.meth .append (.var 1) (.cons (.tup (.cons (.var 4) (.cons (.var 6) (.cons (.var 7) .nil)))) .nil)))
  (.seq (.asg 8 (.call 3 (.cons (.var 4) (.cons (.var 6) .nil))))
  (.seq (.ife (.or (.not (.isi (.var 8) .tbool)) (.cmp .ne (.var 8) (.var 7))) (.seq (.ret (.bl false))
  .nop) .nop)
  .nop))))))
  .nop))))
  (.seq (.ret (.cmp .eq (.comp (.var 9) (.one 9) (.it (.rev (.var 1))) (.cmp .ne (.call 3 (.cons (.ix (.var 9) (.int 0)) (.cons (.ix (.var 9) (.int 1)) .nil))) (.ix (.var 9) (.int 2))) [9]) (.lst .nil)))
  .nop)))
def f_law : FnI := ⟨"law", ["_law_script"], ["_law_script", "_law_some", "_law_cell_here", "_law_store_here", "_law_wish_here", "_law_k", "_law_card_here", "_law_due", "_law_found", "_law_one"], b_law⟩
def fns : List FnI := [f_has_mark, f_size_of, f_lets_size, f_lets, f__law_cell, f__law_store, f__law_pick, f__law_word, f__law_number, f__law_leaf, f__law_wish, f__law_parts, f__law_good, f__law_card, f__law_lets, f_law]
def q : Nmz := ⟨⟨fun f => fns[f]?, fun _ => none, fun _ _ => none, fun _ => none, fun _ _ => false, 0⟩, fun _ => none⟩
def top (i : Nat) : Stmt := PySem.Challenge.pw_matepoint_k08_what_wishes_let.main.body.getD i (.Pass ⟨0, 0, 0, 0⟩)
theorem c_has_mark : chkB q ⟨f_has_mark.N, defScope (top 1), [], false, true⟩ f_has_mark.body (defBody (top 1)) = true := by decide +kernel
theorem s_has_mark : FnScope f_has_mark.N f_has_mark.ps (defScope (top 1)) := ⟨rfl, rfl, rfl, by decide +kernel, rfl, by decide +kernel, by decide +kernel⟩
theorem c_size_of : chkB q ⟨f_size_of.N, defScope (top 2), [], false, true⟩ f_size_of.body (defBody (top 2)) = true := by decide +kernel
theorem s_size_of : FnScope f_size_of.N f_size_of.ps (defScope (top 2)) := ⟨rfl, rfl, rfl, by decide +kernel, rfl, by decide +kernel, by decide +kernel⟩
theorem c_lets_size : chkB q ⟨f_lets_size.N, defScope (top 4), [], false, true⟩ f_lets_size.body (defBody (top 4)) = true := by decide +kernel
theorem s_lets_size : FnScope f_lets_size.N f_lets_size.ps (defScope (top 4)) := ⟨rfl, rfl, rfl, by decide +kernel, rfl, by decide +kernel, by decide +kernel⟩
theorem c_lets : chkB q ⟨f_lets.N, defScope (top 5), [], false, true⟩ f_lets.body (defBody (top 5)) = true := by decide +kernel
theorem s_lets : FnScope f_lets.N f_lets.ps (defScope (top 5)) := ⟨rfl, rfl, rfl, by decide +kernel, rfl, by decide +kernel, by decide +kernel⟩
theorem c__law_cell : chkB q ⟨f__law_cell.N, defScope (top 7), [], false, true⟩ f__law_cell.body (defBody (top 7)) = true := by decide +kernel
theorem s__law_cell : FnScope f__law_cell.N f__law_cell.ps (defScope (top 7)) := ⟨rfl, rfl, rfl, by decide +kernel, rfl, by decide +kernel, by decide +kernel⟩
theorem c__law_store : chkB q ⟨f__law_store.N, defScope (top 8), [], false, true⟩ f__law_store.body (defBody (top 8)) = true := by decide +kernel
theorem s__law_store : FnScope f__law_store.N f__law_store.ps (defScope (top 8)) := ⟨rfl, rfl, rfl, by decide +kernel, rfl, by decide +kernel, by decide +kernel⟩
theorem c__law_pick : chkB q ⟨f__law_pick.N, defScope (top 9), [], false, true⟩ f__law_pick.body (defBody (top 9)) = true := by decide +kernel
theorem s__law_pick : FnScope f__law_pick.N f__law_pick.ps (defScope (top 9)) := ⟨rfl, rfl, rfl, by decide +kernel, rfl, by decide +kernel, by decide +kernel⟩
theorem c__law_word : chkB q ⟨f__law_word.N, defScope (top 10), [], false, true⟩ f__law_word.body (defBody (top 10)) = true := by decide +kernel
theorem s__law_word : FnScope f__law_word.N f__law_word.ps (defScope (top 10)) := ⟨rfl, rfl, rfl, by decide +kernel, rfl, by decide +kernel, by decide +kernel⟩
theorem c__law_number : chkB q ⟨f__law_number.N, defScope (top 11), [], false, true⟩ f__law_number.body (defBody (top 11)) = true := by decide +kernel
theorem s__law_number : FnScope f__law_number.N f__law_number.ps (defScope (top 11)) := ⟨rfl, rfl, rfl, by decide +kernel, rfl, by decide +kernel, by decide +kernel⟩
theorem c__law_leaf : chkB q ⟨f__law_leaf.N, defScope (top 12), [], false, true⟩ f__law_leaf.body (defBody (top 12)) = true := by decide +kernel
theorem s__law_leaf : FnScope f__law_leaf.N f__law_leaf.ps (defScope (top 12)) := ⟨rfl, rfl, rfl, by decide +kernel, rfl, by decide +kernel, by decide +kernel⟩
theorem c__law_wish : chkB q ⟨f__law_wish.N, defScope (top 13), [], false, true⟩ f__law_wish.body (defBody (top 13)) = true := by decide +kernel
theorem s__law_wish : FnScope f__law_wish.N f__law_wish.ps (defScope (top 13)) := ⟨rfl, rfl, rfl, by decide +kernel, rfl, by decide +kernel, by decide +kernel⟩
theorem c__law_parts : chkB q ⟨f__law_parts.N, defScope (top 14), [], false, true⟩ f__law_parts.body (defBody (top 14)) = true := by decide +kernel
theorem s__law_parts : FnScope f__law_parts.N f__law_parts.ps (defScope (top 14)) := ⟨rfl, rfl, rfl, by decide +kernel, rfl, by decide +kernel, by decide +kernel⟩
theorem c__law_good : chkB q ⟨f__law_good.N, defScope (top 15), [], false, true⟩ f__law_good.body (defBody (top 15)) = true := by decide +kernel
theorem s__law_good : FnScope f__law_good.N f__law_good.ps (defScope (top 15)) := ⟨rfl, rfl, rfl, by decide +kernel, rfl, by decide +kernel, by decide +kernel⟩
theorem c__law_card : chkB q ⟨f__law_card.N, defScope (top 16), [], false, true⟩ f__law_card.body (defBody (top 16)) = true := by decide +kernel
theorem s__law_card : FnScope f__law_card.N f__law_card.ps (defScope (top 16)) := ⟨rfl, rfl, rfl, by decide +kernel, rfl, by decide +kernel, by decide +kernel⟩
theorem c__law_lets : chkB q ⟨f__law_lets.N, defScope (top 17), [], false, true⟩ f__law_lets.body (defBody (top 17)) = true := by decide +kernel
theorem s__law_lets : FnScope f__law_lets.N f__law_lets.ps (defScope (top 17)) := ⟨rfl, rfl, rfl, by decide +kernel, rfl, by decide +kernel, by decide +kernel⟩
theorem c_law : chkB q ⟨f_law.N, defScope (top 18), [], false, true⟩ f_law.body (defBody (top 18)) = true := by decide +kernel
theorem s_law : FnScope f_law.N f_law.ps (defScope (top 18)) := ⟨rfl, rfl, rfl, by decide +kernel, rfl, by decide +kernel, by decide +kernel⟩
end K08

set_option Elab.async false
set_option linter.all false
set_option maxRecDepth 100000
/-! wishes, cards: what the program and the law say of them -/
namespace K08
open MI
/-- a wish -/
inductive W where
  | any | is (s : List Nat) | by_ (s : List Nat) | least (s : List Nat) (n : Int) | most (s : List Nat) (n : Int) | not (w : W) | and (ws : List W) | or (ws : List W)
structure Card where
  nm : List Nat
  kd : List Nat
  marks : List (List Nat)
  sizes : List (List Nat × Int)
def encC (c : Card) : D := .tup [.str c.nm, .str c.kd, .tup (c.marks.map .str), .tup (c.sizes.map fun p => .tup [.str p.1, .int p.2])]
mutual
def enc : W → D
  | .any => .tup [.str [97, 110, 121]]
  | .is s => .tup [.str [105, 115], .str s]
  | .by_ s => .tup [.str [98, 121], .str s]
  | .least s n => .tup [.str [108, 101, 97, 115, 116], .str s, .int n]
  | .most s n => .tup [.str [109, 111, 115, 116], .str s, .int n]
  | .not w => .tup [.str [110, 111, 116], enc w]
  | .and ws => .tup [.str [97, 110, 100], .tup (encs ws)]
  | .or ws => .tup [.str [111, 114], .tup (encs ws)]
def encs : List W → List D
  | [] => []
  | w :: ws => enc w :: encs ws
end
def sz : List (List Nat × Int) → List Nat → Option Int
  | [], _ => none
  | p :: r, w => if p.1 = w then some p.2 else sz r w
mutual
def sem : W → Card → Bool
  | .any, _ => true
  | .is s, c => decide (s ∈ c.marks)
  | .by_ s, c => decide (c.nm = s)
  | .least s n, c => match sz c.sizes s with
    | none => false
    | some k => decide (n ≤ k)
  | .most s n, c => match sz c.sizes s with
    | none => false
    | some k => decide (k ≤ n)
  | .not w, c => !sem w c
  | .and ws, c => (sems ws c).all id
  | .or ws, c => (sems ws c).any id
def sems : List W → Card → List Bool
  | [], _ => []
  | w :: ws, c => sem w c :: sems ws c
end
mutual
def dpt : W → Nat
  | .not w => dpt w + 1
  | .and ws => dpts ws + 1
  | .or ws => dpts ws + 1
  | _ => 0
def dpts : List W → Nat
  | [] => 0
  | w :: ws => max (dpt w) (dpts ws)
end
mutual
def okW : W → Bool
  | .not w => okW w
  | .and ws => decide (ws.length ≤ 1000) && okWs ws
  | .or ws => decide (ws.length ≤ 1000) && okWs ws
  | _ => true
def okWs : List W → Bool
  | [] => true
  | w :: ws => okW w && okWs ws
end
theorem okWs_mem {ws : List W} (h : okWs ws = true) : ∀ w ∈ ws, okW w = true := by
  induction ws with
  | nil => simp
  | cons a r ih =>
    simp only [okWs, Bool.and_eq_true] at h
    intro w hw
    rcases List.mem_cons.mp hw with rfl | hw
    · exact h.1
    · exact ih h.2 w hw
theorem dpts_le {ws : List W} {n : Nat} (h : dpts ws ≤ n) : ∀ w ∈ ws, dpt w ≤ n := by
  induction ws with
  | nil => simp
  | cons a r ih =>
    simp only [dpts] at h
    intro w hw
    rcases List.mem_cons.mp hw with rfl | hw
    · omega
    · exact ih (by omega) w hw
theorem encs_map (ws : List W) : encs ws = ws.map enc := by
  induction ws with
  | nil => rfl
  | cons w r ih => simp [encs, ih]
theorem sems_map (ws : List W) (c : Card) : sems ws c = ws.map fun w => sem w c := by
  induction ws with
  | nil => rfl
  | cons w r ih => simp [sems, ih]
theorem blsOf_map {α : Type} (f : α → Bool) (xs : List α) : blsOf (xs.map fun x => .bl (f x)) = some (xs.map f) := by
  induction xs with
  | nil => rfl
  | cons x r ih => simp [blsOf, ih]
theorem any_str (w : List Nat) (xs : List (List Nat)) : (xs.map D.str).any (fun z => deq z (.str w)) = decide (w ∈ xs) := by
  induction xs with
  | nil => rfl
  | cons a r ih =>
    rw [List.map_cons, List.any_cons, ih]
    simp only [deq, List.mem_cons]
    by_cases h : a = w
    · subst h; simp
    · have h' : ¬ w = a := fun e => h e.symm
      simp [h, h']
theorem flat_str (xs : List (List Nat)) : (xs.map D.str).all flat = true := by
  rw [List.all_map]; exact List.all_eq_true.mpr fun _ _ => rfl
theorem in_strs (w : List Nat) (xs : List (List Nat)) (M : Sto) : inO M (.str w) (.tup (xs.map D.str)) = some (decide (w ∈ xs)) := by
  have f := flat_str xs
  have a := any_str w xs
  simp only [inO, dicOf, items]
  rw [if_pos ⟨rfl, f⟩, a]
theorem in_strsL (w : List Nat) (xs : List (List Nat)) (M : Sto) : inO M (.str w) (.lst (xs.map D.str)) = some (decide (w ∈ xs)) := by
  have f := flat_str xs
  have a := any_str w xs
  simp only [inO, dicOf, items]
  rw [if_pos ⟨rfl, f⟩, a]
theorem in_strsR (w : List Nat) (xs : List (List Nat)) {M : Sto} {h : Nat} (e : M[h]? = some (.lst (xs.map D.str))) : inO M (.str w) (.ref h) = some (decide (w ∈ xs)) := by
  have f := flat_str xs
  have a := any_str w xs
  simp only [inO, dicOf, items, e]
  rw [if_pos ⟨rfl, f⟩, a]
theorem in_two (w a b : List Nat) (M : Sto) : inO M (.str w) (.tup [.str a, .str b]) = some (decide (w = a ∨ w = b)) := by
  have := in_strs w [a, b] M
  simpa using this
theorem in_three (w a b c : List Nat) (M : Sto) : inO M (.str w) (.tup [.str a, .str b, .str c]) = some (decide (w = a ∨ w = b ∨ w = c)) := by
  have := in_strs w [a, b, c] M
  simpa using this
@[simp] theorem home_encC (c : Card) (M : Sto) : home (encC c) M = .ok (encC c) M := rfl
@[simp] theorem home_enc (w : W) (M : Sto) : home (enc w) M = .ok (enc w) M := by cases w <;> simp [enc]
theorem homed_enc (w : W) : homed (enc w) = true := by cases w <;> simp [enc, homed]
theorem has_ok (n : Nat) (c : Card) (w : List Nat) (M : Sto) : callN q.T (n + 1) 0 [encC c, .str w] M = .ok (.bl (decide (w ∈ c.marks))) M := by
  rw [callN_f (fi := f_has_mark) rfl _ _ _ rfl]
  simp [f_has_mark, b_has_mark, encC, atI_2, in_strs]
theorem size_loop {O : Orc} {c : Card} {w : List Nat} : ∀ (xs : List (List Nat × Int)) (σ : Env) (M : Sto), σ.length = 4 → σ[1]? = some (some (.str w)) →
    (sz xs w = none ∧ ∃ σ', forL (evS O none (.seq (.ife (.cmp .eq (.var 2) (.var 1)) (.seq (.ret (.var 3)) .nop) .nop) .nop)) (.tup [2, 3]) none (xs.map fun p => .tup [.str p.1, .int p.2]) σ M = .nx σ' M) ∨
    ∃ k, sz xs w = some k ∧ forL (evS O none (.seq (.ife (.cmp .eq (.var 2) (.var 1)) (.seq (.ret (.var 3)) .nop) .nop) .nop)) (.tup [2, 3]) none (xs.map fun p => .tup [.str p.1, .int p.2]) σ M = .ret (.int k) M
  | [], σ, M, _, _ => .inl ⟨rfl, σ, by simp [forL, okG]⟩
  | p :: xs, σ, M, hl, h1 => by
    obtain ⟨x0, x1, x2, x3, rfl⟩ : ∃ a b c d, σ = [a, b, c, d] := by
      match σ, hl with
      | [a, b, c, d], _ => exact ⟨a, b, c, d, rfl⟩
    simp at h1
    subst h1
    by_cases h : p.1 = w
    · refine .inr ⟨p.2, by simp [sz, h], ?_⟩
      simp [forL, okG, bindTg, h]
    · have ih := size_loop (O := O) (c := c) (w := w) xs [x0, some (.str w), some (.str p.1), some (.int p.2)] M rfl rfl
      have e : ∀ r, forL (evS O none (.seq (.ife (.cmp .eq (.var 2) (.var 1)) (.seq (.ret (.var 3)) .nop) .nop) .nop)) (.tup [2, 3]) none (xs.map fun p => .tup [.str p.1, .int p.2]) [x0, some (.str w), some (.str p.1), some (.int p.2)] M = r →
          forL (evS O none (.seq (.ife (.cmp .eq (.var 2) (.var 1)) (.seq (.ret (.var 3)) .nop) .nop) .nop)) (.tup [2, 3]) none ((p :: xs).map fun p => .tup [.str p.1, .int p.2]) [x0, some (.str w), x2, x3] M = r := by
        intro r hr
        rw [List.map_cons, forL]
        simp [okG, bindTg, h]
        simpa using hr
      simp only [sz, if_neg h]
      rcases ih with ⟨e1, σ', e2⟩ | ⟨k, e1, e2⟩
      · exact .inl ⟨e1, σ', e _ e2⟩
      · exact .inr ⟨k, e1, e _ e2⟩
def optD : Option Int → D
  | none => .non
  | some k => .int k
theorem size_ok (n : Nat) (c : Card) (w : List Nat) (M : Sto) : callN q.T (n + 1) 1 [encC c, .str w] M = .ok (optD (sz c.sizes w)) M := by
  rw [callN_f (fi := f_size_of) rfl _ _ _ rfl]
  have l := size_loop (O := orc q.T n) (c := c) (w := w) c.sizes [some (encC c), some (.str w), none, none] M rfl rfl
  simp only [f_size_of, b_size_of, es_seq, es_for, ei_it, ee_ix, ee_var, ee_int]
  rcases l with ⟨e1, σ', e2⟩ | ⟨k, e1, e2⟩
  · rw [e1]
    simp [encC, atI_3, itOf] at e2 ⊢
    rw [e2]
    rfl
  · rw [e1]
    simp [encC, atI_3, itOf] at e2 ⊢
    rw [e2]
    rfl
theorem lets_size_ok (n : Nat) (b : Bool) (s : List Nat) (m : Int) (o : Option Int) (M : Sto) : callN q.T (n + 1) 2 [.tup [.str (if b = true then [108, 101, 97, 115, 116] else [109, 111, 115, 116]), .str s, .int m], optD o] M =
    .ok (.bl (match o with | none => false | some k => if b = true then decide (m ≤ k) else decide (k ≤ m))) M := by
  rw [callN_f (fi := f_lets_size) rfl _ _ _ rfl]
  cases o <;> cases b <;> simp [f_lets_size, b_lets_size, optD, atI_0, atI_1, atI_2]
@[simp] theorem home_opt (o : Option Int) (M : Sto) : home (optD o) M = .ok (optD o) M := by cases o <;> rfl
theorem comp_bls {O : Orc} {g : W → Bool} {i : Nat} (ws : List W) {a : C} {σ : Env} {M : Sto} (h : ∀ w ∈ ws, evE O none a (σ.set i (some (enc w))) M = .ok (.bl (g w)) M) :
    compL (turnC (fun _ M => .ok (.bl true) M) fun σ' M' => evE O none a σ' M') (.one i) none σ (encs ws) M = .ok (ws.map fun w => .bl (g w)) M := by
  rw [encs_map]
  induction ws with
  | nil => simp [compL, okG]
  | cons w r ih =>
    have h1 := h w List.mem_cons_self
    have h2 := ih fun y hy => h y (List.mem_cons_of_mem _ hy)
    rw [List.map_cons, compL]
    simp [okG, bindTg, turnC, h1, h2, homed]
theorem lets_step (c : Card) (n : Nat) (w : W) (hw : okW w = true) (ih : ∀ w', okW w' = true → dpt w' < dpt w → ∀ M, callN q.T (n + 1) 3 [enc w', encC c] M = .ok (.bl (sem w' c)) M) (M : Sto) : callN q.T (n + 2) 3 [enc w, encC c] M = .ok (.bl (sem w c)) M := by
  rw [callN_f (fi := f_lets) rfl _ _ _ rfl]
  cases w with
  | any => simp [f_lets, b_lets, enc, sem, atI_0]
  | is s => simp [f_lets, b_lets, enc, sem, atI_0, atI_1, has_ok]
  | by_ s =>
    simp [f_lets, b_lets, enc, sem, atI_0, atI_1]
    simp [encC, atI_0]
  | least s m =>
    have l := lets_size_ok n true s m (sz c.sizes s) M
    simp only [if_true] at l
    simp [f_lets, b_lets, enc, sem, atI_0, atI_1, lim_ok, in_two, size_ok, l]
  | most s m =>
    have l := lets_size_ok n false s m (sz c.sizes s) M
    simp at l
    simp [f_lets, b_lets, enc, sem, atI_0, atI_1, lim_ok, in_two, size_ok, l]
  | not w =>
    have l := ih w hw (by simp [dpt]) M
    simp [f_lets, b_lets, enc, sem, atI_0, atI_1, lim_ok, in_two, l]
    cases sem w c <;> rfl
  | and ws =>
    simp only [okW, Bool.and_eq_true, decide_eq_true_eq] at hw
    have l : ∀ w ∈ ws, ∀ M, callN q.T (n + 1) 3 [enc w, encC c] M = .ok (.bl (sem w c)) M := fun w hw' M => ih w (okWs_mem hw.2 w hw') (by have := dpts_le (Nat.le_refl (dpts ws)) w hw'; simp only [dpt]; omega) M
    have cb : ∀ σ0, σ0 = [some (enc (.and ws)), some (encC c), some (.str [97, 110, 100]), none] → compL (turnC (fun _ M => .ok (.bl true) M) fun σ' M' => evE (orc q.T (n + 1)) none (.call 3 (.cons (.var 3) (.cons (.var 1) .nil))) σ' M') (.one 3) none σ0 (encs ws) M = .ok (ws.map fun w => .bl (sem w c)) M := by
      rintro σ0 rfl
      exact comp_bls ws fun w hw' => by simp [l w hw' M]
    have hl : (encs ws).length < LINE := by rw [encs_map, List.length_map]; exact Nat.lt_of_le_of_lt hw.1 (by decide)
    have cb := cb _ rfl
    simp [enc] at cb
    simp [f_lets, b_lets, enc, sem, atI_0, atI_1, lim_ok, in_two, itOf, wipeD, hl, cb]
    simp [bi, items, blsOf_map, sems_map]
  | or ws =>
    simp only [okW, Bool.and_eq_true, decide_eq_true_eq] at hw
    have l : ∀ w ∈ ws, ∀ M, callN q.T (n + 1) 3 [enc w, encC c] M = .ok (.bl (sem w c)) M := fun w hw' M => ih w (okWs_mem hw.2 w hw') (by have := dpts_le (Nat.le_refl (dpts ws)) w hw'; simp only [dpt]; omega) M
    have cb : ∀ σ0, σ0 = [some (enc (.or ws)), some (encC c), some (.str [111, 114]), none] → compL (turnC (fun _ M => .ok (.bl true) M) fun σ' M' => evE (orc q.T (n + 1)) none (.call 3 (.cons (.var 3) (.cons (.var 1) .nil))) σ' M') (.one 3) none σ0 (encs ws) M = .ok (ws.map fun w => .bl (sem w c)) M := by
      rintro σ0 rfl
      exact comp_bls ws fun w hw' => by simp [l w hw' M]
    have hl : (encs ws).length < LINE := by rw [encs_map, List.length_map]; exact Nat.lt_of_le_of_lt hw.1 (by decide)
    have cb := cb _ rfl
    simp [enc] at cb
    simp [f_lets, b_lets, enc, sem, atI_0, atI_1, lim_ok, in_two, itOf, wipeD, hl, cb]
    simp [bi, items, blsOf_map, sems_map]
theorem lets_ok (c : Card) : ∀ (n : Nat) (w : W), okW w = true → dpt w ≤ n → ∀ M, callN q.T (n + 2) 3 [enc w, encC c] M = .ok (.bl (sem w c)) M := by
  intro n
  induction n with
  | zero => exact fun w ho hw M => lets_step c 0 w ho (fun w' _ h => by omega) M
  | succ n ih => exact fun w ho hw M => lets_step c (n + 1) w ho (fun w' ho' h => ih w' ho' (by omega)) M
end K08

set_option Elab.async false
set_option linter.all false
set_option maxRecDepth 100000
/-! words, numbers, wishes and cards drawn -/
namespace K08
open MI
theorem pick_ok (n : Nat) {M : Sto} {h c : Nat} {m : Int} (p : Pot M h c) (hc : c < 10 ^ 30) (hm : 0 < m) (hm2 : m < 1000000000000) :
    ∃ k M', 0 ≤ k ∧ k < m ∧ callN q.T (n + 1) 6 [.ref h, .int m] M = .ok (.int k) M' ∧ Pot M' h (c + 1) ∧ Chg h M M' := by
  rw [callN_f (fi := f__law_pick) rfl _ _ _ rfl]
  exact pick_body (orc q.T n) p hc hm hm2
theorem six {k : Int} (h0 : 0 ≤ k) (h : k < 6) : k = 0 ∨ k = 1 ∨ k = 2 ∨ k = 3 ∨ k = 4 ∨ k = 5 := by omega
theorem word_ok (n : Nat) {M : Sto} {h c : Nat} (p : Pot M h c) (hc : c < 10 ^ 30) : ∃ w M', callN q.T (n + 2) 7 [.ref h] M = .ok (.str w) M' ∧ Pot M' h (c + 1) ∧ Chg h M M' := by
  obtain ⟨k, M', h0, h1, e, p', ch⟩ := pick_ok n (m := 6) p hc (by decide) (by decide)
  rw [callN_f (fi := f__law_word) rfl _ _ _ rfl]
  obtain ⟨w, ew⟩ : ∃ w, atI [D.str [114, 121, 101], D.str [111, 108, 100], D.str [97], D.str [97, 110], D.str [97, 110, 100, 121], D.str [112, 114, 105, 99, 101]] k = some (.str w) := by
    rcases six h0 h1 with rfl | rfl | rfl | rfl | rfl | rfl <;> exact ⟨_, rfl⟩
  exact ⟨w, M', by simp [f__law_word, b__law_word, lim_ok, e, ew], p', ch⟩
theorem number_ok (n : Nat) {M : Sto} {h c : Nat} (p : Pot M h c) (hc : c < 10 ^ 30) : ∃ w M', callN q.T (n + 2) 8 [.ref h] M = .ok (.int w) M' ∧ Pot M' h (c + 1) ∧ Chg h M M' := by
  obtain ⟨k, M', h0, h1, e, p', ch⟩ := pick_ok n (m := 6) p hc (by decide) (by decide)
  rw [callN_f (fi := f__law_number) rfl _ _ _ rfl]
  obtain ⟨w, ew⟩ : ∃ w, atI [D.int 0, D.int 1, D.int 2, D.int 3, D.int 999999999, D.int 1000000000] k = some (.int w) := by
    rcases six h0 h1 with rfl | rfl | rfl | rfl | rfl | rfl <;> exact ⟨_, rfl⟩
  exact ⟨w, M', by simp [f__law_number, b__law_number, lim_ok, pow_ok, e, ew], p', ch⟩
theorem leaf_ok (n : Nat) {M : Sto} {h c : Nat} (p : Pot M h c) (hc : c + 5 < 10 ^ 30) : ∃ w M', callN q.T (n + 3) 9 [.ref h] M = .ok (enc w) M' ∧ dpt w = 0 ∧ okW w = true ∧ Pot M' h (c + 3) ∧ Chg h M M' := by
  obtain ⟨k, M1, h0, h1, e, p1, ch⟩ := pick_ok (n + 1) (m := 6) p (by omega) (by decide) (by decide)
  obtain ⟨w, M2, e2, p2, ch2⟩ := word_ok n p1 (by omega)
  obtain ⟨m, M3, e3, p3, ch3⟩ := number_ok n p2 (by omega)
  rw [callN_f (fi := f__law_leaf) rfl _ _ _ rfl]
  rcases six h0 h1 with rfl | rfl | rfl | rfl | rfl | rfl
  · exact ⟨.any, M1, by simp [f__law_leaf, b__law_leaf, lim_ok, e, enc], rfl, rfl, p1.mono (by omega), ch⟩
  · exact ⟨.is w, M2, by simp [f__law_leaf, b__law_leaf, lim_ok, e, e2, enc, atI, ixN], rfl, rfl, p2.mono (by omega), ch.trans ch2⟩
  · exact ⟨.by_ w, M2, by simp [f__law_leaf, b__law_leaf, lim_ok, e, e2, enc, atI, ixN], rfl, rfl, p2.mono (by omega), ch.trans ch2⟩
  · exact ⟨.most w m, M3, by simp [f__law_leaf, b__law_leaf, lim_ok, e, e2, e3, enc, atI, ixN, mod_ok], rfl, rfl, p3, (ch.trans ch2).trans ch3⟩
  · exact ⟨.least w m, M3, by simp [f__law_leaf, b__law_leaf, lim_ok, e, e2, e3, enc, atI, ixN, mod_ok], rfl, rfl, p3, (ch.trans ch2).trans ch3⟩
  · exact ⟨.most w m, M3, by simp [f__law_leaf, b__law_leaf, lim_ok, e, e2, e3, enc, atI, ixN, mod_ok], rfl, rfl, p3, (ch.trans ch2).trans ch3⟩
/-- wishes that a list holds -/
theorem unenc {d : Nat} : ∀ {ds : List D}, (∀ x ∈ ds, ∃ w, x = enc w ∧ dpt w ≤ d ∧ okW w = true) → ∃ ws, ds = encs ws ∧ dpts ws ≤ d ∧ okWs ws = true ∧ ws.length = ds.length
  | [], _ => ⟨[], rfl, Nat.zero_le _, rfl, rfl⟩
  | x :: ds, h => by
    obtain ⟨w, rfl, h1, h2⟩ := h x List.mem_cons_self
    obtain ⟨ws, rfl, h3, h4, h5⟩ := unenc fun y hy => h y (List.mem_cons_of_mem _ hy)
    exact ⟨w :: ws, rfl, by simp only [dpts]; omega, by simp [okWs, h2, h4], by simp [h5]⟩
theorem wish_ok : ∀ (k : Nat), 1 ≤ k → ∀ (n : Nat) {M : Sto} {h c : Nat}, Pot M h c → c + 10 ^ k < 10 ^ 30 → ∃ w M', callN q.T (n + k + 3) 10 [.ref h, .int (k : Int)] M = .ok (enc w) M' ∧ dpt w + 1 ≤ k ∧ okW w = true ∧ Pot M' h (c + 10 ^ k) ∧ Chg h M M' := by
  intro k
  induction k with
  | zero => intro h; omega
  | succ k ih =>
    intro _ n M h c p hc
    have e10 : 10 ^ (k + 1) = 10 * 10 ^ k := by rw [Nat.pow_succ]; omega
    have e1 : 1 ≤ 10 ^ k := Nat.pow_pos (by decide)
    obtain ⟨way, M1, h0, h1, e, p1, ch⟩ := pick_ok (n + k + 2) (m := 6) p (by omega) (by decide) (by decide)
    have leaf : way < 2 ∨ k = 0 → ∃ w M', callN q.T (n + (k + 1) + 3) 10 [.ref h, .int ((k + 1 : Nat) : Int)] M = .ok (enc w) M' ∧ dpt w + 1 ≤ k + 1 ∧ okW w = true ∧ Pot M' h (c + 10 ^ (k + 1)) ∧ Chg h M M' := by
      intro hw
      obtain ⟨w, M2, e2, d2, o2, p2, ch2⟩ := leaf_ok (n + k) p1 (by omega)
      refine ⟨w, M2, ?_, by omega, o2, p2.mono (by omega), ch.trans ch2⟩
      rw [show n + (k + 1) + 3 = n + k + 3 + 1 from by omega, callN_f (fi := f__law_wish) rfl _ _ _ rfl]
      rcases hw with hw | rfl
      · simp [f__law_wish, b__law_wish, e, hw, e2]
      · simp [f__law_wish, b__law_wish, e, e2]
    by_cases hk : k = 0
    · exact leaf (.inr hk)
    by_cases hw : way < 2
    · exact leaf (.inl hw)
    have hkk : ((k : Int) + 1 - 1) = (k : Int) := by omega
    have hk1 : ¬ ((k : Int) + 1 = 1) := by omega
    by_cases hw2 : way = 2
    · subst hw2
      obtain ⟨w, M2, e2, d2, o2, p2, ch2⟩ := ih (by omega) n p1 (by omega)
      refine ⟨.not w, M2, ?_, by simp only [dpt]; omega, by simpa [okW] using o2, p2.mono (by omega), ch.trans ch2⟩
      rw [show n + (k + 1) + 3 = n + k + 3 + 1 from by omega, callN_f (fi := f__law_wish) rfl _ _ _ rfl]
      simp [f__law_wish, b__law_wish, e, hkk, hk, hk1, e2, enc, lim_ok]
    · obtain ⟨i, M2, i0, i1, e2, p2, ch2⟩ := pick_ok (n + k + 2) (m := 3) p1 (by omega) (by decide) (by decide)
      have hm : ∃ m : Int, atI [D.int 2, D.int 2, D.int 5] i = some (.int m) ∧ 0 < m ∧ m ≤ 5 := by
        have : i = 0 ∨ i = 1 ∨ i = 2 := by omega
        rcases this with rfl | rfl | rfl
        · exact ⟨2, rfl, by decide, by decide⟩
        · exact ⟨2, rfl, by decide, by decide⟩
        · exact ⟨5, rfl, by decide, by decide⟩
      obtain ⟨m, em, m0, m5⟩ := hm
      obtain ⟨j, M3, j0, j1, e3, p3, ch3⟩ := pick_ok (n + k + 2) (m := m) p2 (by omega) m0 (by omega)
      have comp : ∀ σ0, σ0[0]? = some (some (.ref h)) → σ0[1]? = some (some (.int ((k : Int) + 1))) → σ0.length = 5 → ∃ ds M4, compL (turnC (fun _ M => .ok (.bl true) M) fun σ' M' => evE (orc q.T (n + k + 3)) none (.call 10 (.cons (.var 0) (.cons (.bin .sub (.var 1) (.int 1)) .nil))) σ' M') (.one 4) none σ0 (rngD 0 (2 + j).toNat) M3 = .ok ds M4 ∧
          (Pot M4 h (c + 3 + (rngD 0 (2 + j).toNat).length * 10 ^ k) ∧ Chg h M3 M4) ∧ ds.length = (rngD 0 (2 + j).toNat).length ∧ ∀ d ∈ ds, ∃ w, d = enc w ∧ dpt w ≤ k - 1 ∧ okW w = true := by
        intro σ0 s0 s1 sl
        have q1 := compL_inv (ev := turnC (fun _ M => .ok (.bl true) M) fun σ' M' => evE (orc q.T (n + k + 3)) none (.call 10 (.cons (.var 0) (.cons (.bin .sub (.var 1) (.int 1)) .nil))) σ' M') (tg := .one 4) (g := none) (σ := σ0)
          (fun t M => Pot M h (c + 3 + t * 10 ^ k) ∧ Chg h M3 M) (fun d => ∃ w, d = enc w ∧ dpt w ≤ k - 1 ∧ okW w = true) (rngD 0 (2 + j).toNat) 0 M3 ⟨by simpa using p3, Chg.refl _ _⟩ (fun _ _ _ => trivial) ?_
        · obtain ⟨ds, M4, x1, x2, x3, x4⟩ := q1
          rw [Nat.zero_add] at x2
          exact ⟨ds, M4, x1, x2, x3, x4⟩
        · intro x hx t M _ ht pt
          rw [rng_len] at ht
          obtain ⟨y0, y1, y2, y3, y4, rfl⟩ : ∃ a b c d e, σ0 = [a, b, c, d, e] := by
            match σ0, sl with
            | [a, b, c, d, e], _ => exact ⟨a, b, c, d, e, rfl⟩
          simp at s0 s1
          subst s0 s1
          have hb : t * 10 ^ k ≤ 6 * 10 ^ k := Nat.mul_le_mul_right _ (by omega)
          obtain ⟨w, M5, e5, d5, o5, p5, ch5⟩ := ih (by omega) n pt.1 (by omega)
          refine ⟨_, enc w, M5, rfl, turnC_true rfl ?_ (homed_enc w), ⟨?_, pt.2.trans ch5⟩, w, rfl, by omega, o5⟩
          · simp [hkk, e5]
          · rw [Nat.add_mul, Nat.one_mul, ← Nat.add_assoc]; exact p5
      obtain ⟨ds, M4, c1, ⟨c2, c3⟩, c4, c5⟩ := comp [some (.ref h), some (.int ((k : Int) + 1)), some (.int way), some (.int (2 + j)), none] rfl rfl rfl
      rw [rng_len] at c2 c4
      obtain ⟨ws, rfl, w1, w2, w3⟩ := unenc c5
      have hlen : ws.length ≤ 6 := by omega
      have hb : (2 + j).toNat * 10 ^ k ≤ 6 * 10 ^ k := Nat.mul_le_mul_right _ (by omega)
      simp at c1
      have hr : (rngD 0 (2 + j).toNat).length < LINE := by rw [rng_len]; exact Nat.lt_of_le_of_lt (by omega : _ ≤ 6) (by decide)
      have hj1 : -4611686018427387904 ≤ 2 + j := by omega
      have hj2 : 2 + j < 4611686018427387904 := by omega
      have h35 : way = 3 ∨ way = 4 ∨ way = 5 := by omega
      have fin : ∀ w, dpt w + 1 ≤ k + 1 → okW w = true → callN q.T (n + (k + 1) + 3) 10 [.ref h, .int ((k + 1 : Nat) : Int)] M = .ok (enc w) M4 → ∃ w M', callN q.T (n + (k + 1) + 3) 10 [.ref h, .int ((k + 1 : Nat) : Int)] M = .ok (enc w) M' ∧ dpt w + 1 ≤ k + 1 ∧ okW w = true ∧ Pot M' h (c + 10 ^ (k + 1)) ∧ Chg h M M' :=
        fun w a1 a2 a3 => ⟨w, M4, a3, a1, a2, c2.mono (by omega), ((ch.trans ch2).trans ch3).trans c3⟩
      rcases h35 with rfl | rfl | rfl
      · refine fin (.or ws) (by simp only [dpt]; omega) (by simp [okW, w2]; omega) ?_
        rw [show n + (k + 1) + 3 = n + k + 3 + 1 from by omega, callN_f (fi := f__law_wish) rfl _ _ _ rfl]
        simp [f__law_wish, b__law_wish, e, hk, hk1, e2, em, e3, lim_ok, mod_ok, hj1, hj2, hr, wipeD, c1]
        (try rw [c1]); simp [bi, items, enc, atI, ixN, lim_ok, c1]
      · refine fin (.and ws) (by simp only [dpt]; omega) (by simp [okW, w2]; omega) ?_
        rw [show n + (k + 1) + 3 = n + k + 3 + 1 from by omega, callN_f (fi := f__law_wish) rfl _ _ _ rfl]
        simp [f__law_wish, b__law_wish, e, hk, hk1, e2, em, e3, lim_ok, mod_ok, hj1, hj2, hr, wipeD, c1]
        (try rw [c1]); simp [bi, items, enc, atI, ixN, lim_ok, c1]
      · refine fin (.or ws) (by simp only [dpt]; omega) (by simp [okW, w2]; omega) ?_
        rw [show n + (k + 1) + 3 = n + k + 3 + 1 from by omega, callN_f (fi := f__law_wish) rfl _ _ _ rfl]
        simp [f__law_wish, b__law_wish, e, hk, hk1, e2, em, e3, lim_ok, mod_ok, hj1, hj2, hr, wipeD, c1]
        (try rw [c1]); simp [bi, items, enc, atI, ixN, lim_ok, c1]
end K08

set_option Elab.async false
set_option linter.all false
set_option maxRecDepth 100000
/-! parts, the good wish, cards, the law's own reading -/
namespace K08
open MI
mutual
def prt : W → Int
  | .not w => 1 + prt w
  | .and ws => 1 + (prts ws).sum
  | .or ws => 1 + (prts ws).sum
  | _ => 1
def prts : List W → List Int
  | [] => []
  | w :: ws => prt w :: prts ws
end
theorem prts_map (ws : List W) : prts ws = ws.map prt := by
  induction ws with
  | nil => rfl
  | cons w r ih => simp [prts, ih]
theorem comp_ints {O : Orc} {g : W → Int} {i : Nat} (ws : List W) {a : C} {σ : Env} {M : Sto} (h : ∀ w ∈ ws, evE O none a (σ.set i (some (enc w))) M = .ok (.int (g w)) M) :
    compL (turnC (fun _ M => .ok (.bl true) M) fun σ' M' => evE O none a σ' M') (.one i) none σ (encs ws) M = .ok (ws.map fun w => .int (g w)) M := by
  rw [encs_map]
  induction ws with
  | nil => simp [compL, okG]
  | cons w r ih =>
    have h1 := h w List.mem_cons_self
    have h2 := ih fun y hy => h y (List.mem_cons_of_mem _ hy)
    rw [List.map_cons, compL]
    simp [okG, bindTg, turnC, h1, h2, homed]
theorem parts_step (n : Nat) (w : W) (hw : okW w = true) (ih : ∀ w', okW w' = true → dpt w' < dpt w → ∀ M, callN q.T n 11 [enc w'] M = .ok (.int (prt w')) M) (M : Sto) : callN q.T (n + 1) 11 [enc w] M = .ok (.int (prt w)) M := by
  rw [callN_f (fi := f__law_parts) rfl _ _ _ rfl]
  cases w with
  | any => simp [f__law_parts, b__law_parts, enc, prt, atI_0, lim_ok, in_two]
  | is s => simp [f__law_parts, b__law_parts, enc, prt, atI_0, lim_ok, in_two]
  | by_ s => simp [f__law_parts, b__law_parts, enc, prt, atI_0, lim_ok, in_two]
  | least s m => simp [f__law_parts, b__law_parts, enc, prt, atI_0, lim_ok, in_two]
  | most s m => simp [f__law_parts, b__law_parts, enc, prt, atI_0, lim_ok, in_two]
  | not w =>
    have l := ih w (by simpa [okW] using hw) (by simp [dpt]) M
    simp [f__law_parts, b__law_parts, enc, prt, atI_0, atI_1, lim_ok, in_two, l]
  | and ws =>
    simp only [okW, Bool.and_eq_true, decide_eq_true_eq] at hw
    have l : ∀ w ∈ ws, ∀ M, callN q.T n 11 [enc w] M = .ok (.int (prt w)) M := fun w hw' M => ih w (okWs_mem hw.2 w hw') (by have := dpts_le (Nat.le_refl (dpts ws)) w hw'; simp only [dpt]; omega) M
    have cb : ∀ σ0, σ0 = [some (enc (.and ws)), none] → compL (turnC (fun _ M => .ok (.bl true) M) fun σ' M' => evE (orc q.T n) none (.call 11 (.cons (.var 1) .nil)) σ' M') (.one 1) none σ0 (encs ws) M = .ok (ws.map fun w => .int (prt w)) M := by
      rintro σ0 rfl
      exact comp_ints ws fun w hw' => by simp [l w hw' M]
    have hl : (encs ws).length < LINE := by rw [encs_map, List.length_map]; exact Nat.lt_of_le_of_lt hw.1 (by decide)
    have cb := cb _ rfl
    simp [enc] at cb
    simp [f__law_parts, b__law_parts, enc, prt, atI_0, atI_1, lim_ok, in_two, itOf, wipeD, hl, cb, bi_sum_lst, prts_map]
  | or ws =>
    simp only [okW, Bool.and_eq_true, decide_eq_true_eq] at hw
    have l : ∀ w ∈ ws, ∀ M, callN q.T n 11 [enc w] M = .ok (.int (prt w)) M := fun w hw' M => ih w (okWs_mem hw.2 w hw') (by have := dpts_le (Nat.le_refl (dpts ws)) w hw'; simp only [dpt]; omega) M
    have cb : ∀ σ0, σ0 = [some (enc (.or ws)), none] → compL (turnC (fun _ M => .ok (.bl true) M) fun σ' M' => evE (orc q.T n) none (.call 11 (.cons (.var 1) .nil)) σ' M') (.one 1) none σ0 (encs ws) M = .ok (ws.map fun w => .int (prt w)) M := by
      rintro σ0 rfl
      exact comp_ints ws fun w hw' => by simp [l w hw' M]
    have hl : (encs ws).length < LINE := by rw [encs_map, List.length_map]; exact Nat.lt_of_le_of_lt hw.1 (by decide)
    have cb := cb _ rfl
    simp [enc] at cb
    simp [f__law_parts, b__law_parts, enc, prt, atI_0, atI_1, lim_ok, in_two, itOf, wipeD, hl, cb, bi_sum_lst, prts_map]
theorem parts_ok : ∀ (n : Nat) (w : W), okW w = true → dpt w ≤ n → ∀ M, callN q.T (n + 1) 11 [enc w] M = .ok (.int (prt w)) M := by
  intro n
  induction n with
  | zero => exact fun w ho hw M => parts_step 0 w ho (fun w' _ h => by omega) M
  | succ n ih => exact fun w ho hw M => parts_step (n + 1) w ho (fun w' ho' h => ih w' ho' (by omega)) M
theorem good_ok (n : Nat) {M0 : Sto} {h c : Nat} (p : Pot M0 h c) (hc : c < 10 ^ 20) : ∃ w M', callN q.T (n + 10) 12 [.ref h] M0 = .ok (enc w) M' ∧ dpt w ≤ 6 ∧ okW w = true ∧ Pot M' h (c + 10 ^ 8) ∧ Chg h M0 M' := by
  obtain ⟨k, M1, h0, h1, e, p1, ch⟩ := pick_ok (n + 8) (m := 6) p (by omega) (by decide) (by decide)
  have loop := forL_ret (body := evS (orc q.T (n + 9)) none (.seq (.asg 3 (.call 10 (.cons (.var 0) (.cons (.var 1) .nil))))
      (.seq (.ife (.cmp .le (.call 11 (.cons (.var 3) .nil)) (.int 40)) (.seq (.ret (.var 3)) .nop) .nop)
      (.seq (.asg 1 (.bi .min2 (.cons (.var 1) (.cons (.int 3) .nil)))) .nop)))) (tg := .one 2) (g := none)
    (fun j σ M => ∃ deep y2 y3, σ = [some (.ref h), some (.int deep), y2, y3] ∧ 1 ≤ deep ∧ deep ≤ 6 ∧ Pot M h (c + 1 + j * 10 ^ 6) ∧ Chg h M0 M)
    (fun j d M => ∃ w, d = enc w ∧ dpt w ≤ 6 ∧ okW w = true ∧ Pot M h (c + 1 + j * 10 ^ 6) ∧ Chg h M0 M)
    (rngD 0 6) 0 [some (.ref h), some (.int (1 + k)), none, none] M1 ⟨1 + k, none, none, rfl, by omega, by omega, by simpa using p1, ch⟩ (fun _ _ _ _ => trivial) ?_
  · have fin : ∀ w M', dpt w ≤ 6 → okW w = true → Pot M' h (c + 1 + 6 * 10 ^ 6 + 10) → Chg h M0 M' → callN q.T (n + 10) 12 [.ref h] M0 = .ok (enc w) M' → ∃ w M', callN q.T (n + 10) 12 [.ref h] M0 = .ok (enc w) M' ∧ dpt w ≤ 6 ∧ okW w = true ∧ Pot M' h (c + 10 ^ 8) ∧ Chg h M0 M' :=
      fun w M' a1 a2 a3 a4 a5 => ⟨w, M', a5, a1, a2, a3.mono (by omega), a4⟩
    rcases loop with ⟨σ', M2, e2, deep, y2, y3, rfl, d1, d2, p2, c2⟩ | ⟨j, d, M2, hj, e2, w, rfl, w1, w2, p2, c2⟩
    · skip
      rw [rng_len] at p2
      obtain ⟨w, M3, e3, z, o3, p3, c3⟩ := leaf_ok (n + 6) p2 (by omega)
      refine fin (.not w) M3 (by simp only [dpt]; omega) (by simpa [okW] using o3) (p3.mono (by omega)) (c2.trans c3) ?_
      rw [callN_f (fi := f__law_good) rfl _ _ _ rfl]
      simp [f__law_good, b__law_good, e, e2, e3, enc, lim_ok]
    · skip
      rw [rng_len] at hj
      refine fin w M2 w1 w2 (p2.mono (by omega)) c2 ?_
      rw [callN_f (fi := f__law_good) rfl _ _ _ rfl]
      simp [f__law_good, b__law_good, e, e2]
  · rintro x hx j σ M _ hj ⟨deep, y2, y3, rfl, d1, d2, pj, cj⟩
    rw [rng_len] at hj
    obtain ⟨dn, rfl⟩ : ∃ dn : Nat, deep = (dn : Int) := ⟨deep.toNat, by omega⟩
    have hp : (10 : Nat) ^ dn ≤ 10 ^ 6 := Nat.pow_le_pow_right (by decide) (by omega)
    obtain ⟨w, M2, e2, z, o2, p2, c2⟩ := wish_ok dn (by omega) (n + 9 - (dn + 3)) pj (by omega)
    rw [show n + 9 - (dn + 3) + dn + 3 = n + 9 from by omega] at e2
    have e3 := parts_ok (n + 8) w o2 (by omega) M2
    have p2' : Pot M2 h (c + 1 + (j + 1) * 10 ^ 6) := p2.mono (by omega)
    refine ⟨_, rfl, ?_⟩
    by_cases hle : prt w ≤ 40
    · exact .inr ⟨enc w, M2, by simp [e2, e3, hle], w, rfl, by omega, o2, p2', cj.trans c2⟩
    · refine .inl ⟨[some (.ref h), some (.int (if 3 < (dn : Int) then 3 else dn)), some x, some (enc w)], M2, by simp [e2, e3, hle], _, _, _, rfl, by split <;> omega, by split <;> omega, p2', cj.trans c2⟩
end K08

set_option Elab.async false
set_option linter.all false
set_option maxRecDepth 100000
/-! cards drawn -/
namespace K08
open MI
theorem words_ok (n : Nat) {M0 : Sto} {h c : Nat} (p : Pot M0 h c) (hc : c + 10 < 10 ^ 30) (k : Int) (k5 : k < 5) (σ : MI.Env) (s0 : σ[0]? = some (some (.ref h))) (sl : σ.length = 5) :
    ∃ (ws : List (List Nat)) (M' : Sto), compL (turnC (fun _ M => .ok (.bl true) M) fun σ' M' => evE (orc q.T (n + 2)) none (.call 7 (.cons (.var 0) .nil)) σ' M') (.one 2) none σ (rngD 0 k.toNat) M0 = .ok (ws.map D.str) M' ∧ ws.length ≤ 4 ∧ Pot M' h (c + 4) ∧ Chg h M0 M' := by
  have q1 := compL_inv (ev := turnC (fun _ M => .ok (.bl true) M) fun σ' M' => evE (orc q.T (n + 2)) none (.call 7 (.cons (.var 0) .nil)) σ' M') (tg := .one 2) (g := none) (σ := σ)
    (fun t M => Pot M h (c + t) ∧ Chg h M0 M) (fun d => ∃ w, d = .str w) (rngD 0 k.toNat) 0 M0 ⟨p, Chg.refl _ _⟩ (fun _ _ _ => trivial) ?_
  · obtain ⟨ds, M', e, ⟨p', c'⟩, l, r⟩ := q1
    obtain ⟨ws, rfl, l2⟩ := unstr r
    rw [rng_len] at l p'
    exact ⟨ws, M', e, by omega, p'.mono (by omega), c'⟩
  · rintro x hx t M _ ht ⟨pt, ct⟩
    rw [rng_len] at ht
    obtain ⟨y0, y1, y2, y3, y4, rfl⟩ : ∃ a b c d e, σ = [a, b, c, d, e] := by
      match σ, sl with
      | [a, b, c, d, e], _ => exact ⟨a, b, c, d, e, rfl⟩
    simp at s0
    subst s0
    obtain ⟨w, M1, e1, p1, c1⟩ := word_ok n pt (by omega)
    refine ⟨_, .str w, M1, rfl, turnC_true rfl ?_ rfl, ⟨by rw [← Nat.add_assoc]; exact p1, ct.trans c1⟩, w, rfl⟩
    simp [e1]
theorem unprs : ∀ {zs : List (List Nat)} {ds : List D}, PySem.W.EachIs (fun x d => ∃ s m, x = D.str s ∧ d = .tup [.str s, .int m]) (zs.map D.str) ds → ∃ ps : List (List Nat × Int), ds = ps.map (fun p => .tup [.str p.1, .int p.2]) ∧ ps.map (·.1) = zs
  | [], ds, h => by cases h; exact ⟨[], rfl, rfl⟩
  | z :: zs, ds, h => by
    rw [List.map_cons] at h
    cases h with
    | cons h1 h2 =>
      obtain ⟨s, m, e1, rfl⟩ := h1
      cases e1
      obtain ⟨ps, rfl, e2⟩ := unprs h2
      exact ⟨(z, m) :: ps, rfl, by simp [e2]⟩
theorem sizes_ok (n : Nat) {M0 : Sto} {h c i : Nat} {zs : List (List Nat)} (p : Pot M0 h c) (hc : c + 10 < 10 ^ 30) (hz : zs.length ≤ 4) (hi : M0[i]? = some (.lst (zs.map D.str))) (hne : i ≠ h) (σ : MI.Env) (s0 : σ[0]? = some (some (.ref h))) (sl : σ.length = 5) :
    ∃ (ps : List (List Nat × Int)) (M' : Sto), compL (turnC (fun _ M => .ok (.bl true) M) fun σ' M' => evE (orc q.T (n + 2)) none (.tup (.cons (.var 4) (.cons (.call 8 (.cons (.var 0) .nil)) .nil))) σ' M') (.one 4) (some (i, zs.map D.str)) σ (zs.map D.str) M0 = .ok (ps.map fun p => .tup [.str p.1, .int p.2]) M' ∧ ps.map (·.1) = zs ∧ Pot M' h (c + 4) ∧ Chg h M0 M' := by
  have q1 := compL_map (ev := turnC (fun _ M => .ok (.bl true) M) fun σ' M' => evE (orc q.T (n + 2)) none (.tup (.cons (.var 4) (.cons (.call 8 (.cons (.var 0) .nil)) .nil))) σ' M') (tg := .one 4) (g := some (i, zs.map D.str)) (σ := σ)
    (fun t M => Pot M h (c + t) ∧ Chg h M0 M ∧ M[i]? = some (.lst (zs.map D.str))) (fun x d => ∃ s m, x = D.str s ∧ d = .tup [.str s, .int m]) (zs.map D.str) 0 M0 ⟨p, Chg.refl _ _, hi⟩ (fun _ _ h => h.2.2) ?_
  · obtain ⟨ds, M', e, ⟨p', c', _⟩, r⟩ := q1
    obtain ⟨ps, rfl, e2⟩ := unprs r
    exact ⟨ps, M', e, e2, p'.mono (by simp; omega), c'⟩
  · rintro x hx t M _ ht ⟨pt, ct, gt⟩
    rw [List.length_map] at ht
    obtain ⟨y0, y1, y2, y3, y4, rfl⟩ : ∃ a b c d e, σ = [a, b, c, d, e] := by
      match σ, sl with
      | [a, b, c, d, e], _ => exact ⟨a, b, c, d, e, rfl⟩
    simp at s0
    subst s0
    obtain ⟨s, hs, rfl⟩ := List.mem_map.mp hx
    obtain ⟨m, M1, e1, p1, c1⟩ := number_ok n pt (by omega)
    refine ⟨_, .tup [.str s, .int m], M1, rfl, turnC_true rfl ?_ rfl, ⟨by rw [← Nat.add_assoc]; exact p1, ct.trans c1, c1.get gt hne⟩, s, m, rfl, rfl⟩
    simp [e1, lim_ok]
theorem card_ok (n : Nat) {M0 : Sto} {h c : Nat} (p : Pot M0 h c) (hc : c < 10 ^ 20) : ∃ cd M', callN q.T (n + 10) 13 [.ref h] M0 = .ok (encC cd) M' ∧ (cd.sizes.map (·.1)).Nodup ∧ cd.sizes.length ≤ 4 ∧ Pot M' h (c + 20) ∧ Chg h M0 M' := by
  obtain ⟨k1, M1, k10, k11, e1, p1, c1⟩ := pick_ok (n + 8) (m := 5) p (by omega) (by decide) (by decide)
  obtain ⟨ws1, M2, e2, l1, p2, c2⟩ := words_ok (n + 7) p1 (by omega) k1 k11 [some (.ref h), none, none, none, none] rfl rfl
  obtain ⟨zs1, z1, n1⟩ := sortset_strs ws1
  have p2' := p2.app [.lst (zs1.map D.str)]
  obtain ⟨k2, M3, k20, k21, e3, p3, c3⟩ := pick_ok (n + 8) (m := 5) p2' (by omega) (by decide) (by decide)
  obtain ⟨ws2, M4, e4, l2, p4, c4⟩ := words_ok (n + 7) p3 (by omega) k2 k21 [some (.ref h), some (.ref M2.length), none, none, none] rfl rfl
  obtain ⟨zs2, z2, n2⟩ := sortset_strs ws2
  have p4' := p4.app [.lst (zs2.map D.str)]
  have hlt := p.lt
  have hM2 : M0.length ≤ M2.length := Nat.le_trans c1.1 c2.1
  have hM4 : M2.length + 1 ≤ M4.length := by have h1 := c3.1; have h2 := c4.1; simp at h1; omega
  have hz2 : zs2.length ≤ 4 := by
    have h1 : (sortD (dedD (ws2.map D.str))).length = zs2.length := by rw [z2, List.length_map]
    rw [strs_kS, dedU_D, sortK_D, List.length_map] at h1
    unfold sortK at h1
    rw [List.length_mergeSort] at h1
    have h3 := dedU_len (ws2.map kS)
    rw [List.length_map] at h3
    omega
  obtain ⟨ps, M5, e5, f5, p5, c5⟩ := sizes_ok (n + 7) (i := M4.length) (zs := zs2) p4' (by omega) hz2 (app_at ..) (by omega) [some (.ref h), some (.ref M2.length), none, some (.ref M4.length), none] rfl rfl
  obtain ⟨a, M6, e6, p6, c6⟩ := word_ok (n + 7) p5 (by omega)
  obtain ⟨b, M7, e7, p7, c7⟩ := word_ok (n + 7) p6 (by omega)
  have g2 : (M2 ++ [MO.lst (zs1.map D.str)])[M2.length]? = some (.lst (zs1.map D.str)) := app_at ..
  have g7 : M7[M2.length]? = some (.lst (zs1.map D.str)) := by
    refine c7.get (c6.get (c5.get (app_old (c4.get (c3.get g2 ?_) ?_) _) ?_) ?_) ?_ <;> omega
  have r1 : (rngD 0 k1.toNat).length < LINE := by rw [rng_len]; exact Nat.lt_of_le_of_lt (by omega : _ ≤ 5) (by decide)
  have r2 : (rngD 0 k2.toNat).length < LINE := by rw [rng_len]; exact Nat.lt_of_le_of_lt (by omega : _ ≤ 5) (by decide)
  have b1 : -4611686018427387904 ≤ k1 ∧ k1 < 4611686018427387904 := by omega
  have b2 : -4611686018427387904 ≤ k2 ∧ k2 < 4611686018427387904 := by omega
  have r3 : zs2.length < LINE := Nat.lt_of_le_of_lt hz2 (by decide)
  have s1 := bi_sortset_strs ws1 (by omega) M2
  have s2 := bi_sortset_strs ws2 (by omega) M4
  rw [z1] at s1
  rw [z2] at s2
  have i5 : itOf (.ref M4.length) (M4 ++ [MO.lst (zs2.map D.str)]) = some (zs2.map D.str, some (M4.length, zs2.map D.str)) := by simp [itOf]
  have t7 := bi_tuple_ref g7
  refine ⟨⟨a, b, zs1, ps⟩, M7, ?_, by rw [f5]; exact n2, by have : ps.length = zs2.length := by rw [← f5, List.length_map]
                                                            show ps.length ≤ 4
                                                            omega, p7.mono (by omega), ?_⟩
  · rw [callN_f (fi := f__law_card) rfl _ _ _ rfl]
    simp at e2 e4 e5
    simp [f__law_card, b__law_card, e1, b1, r1, wipeD, e2, s1, e3, b2, r2, e4, s2, i5, r3, e5, e6, e7, t7, lim_ok, encC]
  · exact ((((((c1.trans c2).trans (Chg.app ..)).trans c3).trans c4).trans (Chg.app ..)).trans c5).trans (c6.trans c7)
end K08

set_option Elab.async false
set_option linter.all false
set_option maxRecDepth 100000
set_option maxHeartbeats 4000000
/-! the law's own reading of a wish -/
namespace K08
open MI
theorem sz_find (w : List Nat) : ∀ ps : List (List Nat × Int), ((ps.map fun p => (p.1, D.int p.2)).find? fun p => decide (p.1 = w)).map (·.2) = (sz ps w).map D.int
  | [] => rfl
  | p :: r => by
    rw [List.map_cons, List.find?_cons, sz]
    by_cases h : p.1 = w
    · simp [h]
    · simp [h]; simpa using sz_find w r
theorem dict_card (c : Card) (hn : (c.sizes.map (·.1)).Nodup) (hl : c.sizes.length ≤ 4) (M : Sto) : ∃ ks vs, bi .dict [.tup (c.sizes.map fun p => .tup [.str p.1, .int p.2])] M = .ok (.dic false ks vs) M ∧ ∀ w, dget (.str w) ks vs = (sz c.sizes w).map D.int := by
  have b := bi_dict_prs (c.sizes.map fun p => (p.1, D.int p.2)) (by rw [List.map_map]; exact hn) (by rw [List.length_map]; omega) M
  unfold prsD at b
  rw [List.map_map] at b
  exact ⟨_, _, b, fun w => by rw [dget_prs, sz_find]⟩
theorem all_count : ∀ bs : List Bool, decide (bs.length ≤ bs.count true) = bs.all id := by
  intro bs
  have : bs.all id = decide (bs.count true = bs.length) := by
    induction bs with
    | nil => rfl
    | cons b r ih =>
      have h := List.count_le_length (a := true) (l := r)
      cases b
      · simp; omega
      · simp [ih]
  rw [this]
  have h := List.count_le_length (a := true) (l := bs)
  by_cases e : bs.count true = bs.length
  · simp [e]
  · have : ¬ (bs.length ≤ bs.count true) := by omega
    simp [e, this]
theorem any_count : ∀ bs : List Bool, decide ((1 : Int) ≤ (bs.count true : Nat)) = bs.any id := by
  intro bs
  have : bs.any id = decide (0 < bs.count true) := by
    induction bs with
    | nil => rfl
    | cons b r ih =>
      cases b
      · simp [ih]
      · simp
  rw [this]
  by_cases e : 0 < bs.count true
  · have : (1 : Int) ≤ (bs.count true : Nat) := by omega
    simp only [e, this, decide_true]
  · have : ¬ (1 : Int) ≤ (bs.count true : Nat) := by omega
    simp only [e, this, decide_false]
theorem bls_of {c : Card} : ∀ {ws : List W} {ds : List D}, PySem.W.EachIs (fun x d => ∀ w, x = enc w → d = .bl (sem w c)) (encs ws) ds → ds = (sems ws c).map D.bl
  | [], ds, h => by cases h; rfl
  | w :: ws, ds, h => by
    cases h with
    | cons h1 h2 =>
      rw [sems, List.map_cons, h1 w rfl, bls_of h2]
mutual
theorem enc_inj : ∀ (a b : W), enc a = enc b → a = b
  | a, b, h => by
    cases a <;> cases b <;> simp [enc] at h <;> first | rfl | (simp [h]; done) | skip
    all_goals (first | exact congrArg _ (enc_inj _ _ h) | exact congrArg _ (encs_inj _ _ h) | (obtain ⟨h1, h2⟩ := h; subst h1 h2; rfl))
theorem encs_inj : ∀ (a b : List W), encs a = encs b → a = b
  | [], [], _ => rfl
  | [], b :: bs, h => by simp [encs] at h
  | a :: as, [], h => by simp [encs] at h
  | a :: as, b :: bs, h => by
    simp only [encs, List.cons.injEq] at h
    rw [enc_inj a b h.1, encs_inj as bs h.2]
end
theorem due_step (c : Card) (hn : (c.sizes.map (·.1)).Nodup) (hl : c.sizes.length ≤ 4) (n : Nat) (w : W) (hw : okW w = true)
    (ih : ∀ w', okW w' = true → dpt w' < dpt w → ∀ M, ∃ J, callN q.T n 14 [enc w', encC c] M = .ok (.bl (sem w' c)) (M ++ J)) (M : Sto) : ∃ J, callN q.T (n + 1) 14 [enc w, encC c] M = .ok (.bl (sem w c)) (M ++ J) := by
  rw [callN_f (fi := f__law_lets) rfl _ _ _ rfl]
  have comp : ∀ ws, (∀ w ∈ ws, ∀ M, ∃ J, callN q.T n 14 [enc w, encC c] M = .ok (.bl (sem w c)) (M ++ J)) → ∀ σ0 : MI.Env, σ0[1]? = some (some (encC c)) → σ0.length = 5 →
      ∃ J, compL (turnC (fun _ M => .ok (.bl true) M) fun σ' M' => evE (orc q.T n) none (.call 14 (.cons (.var 4) (.cons (.var 1) .nil))) σ' M') (.one 4) none σ0 (encs ws) M = .ok ((sems ws c).map D.bl) (M ++ J) := by
    intro ws hws σ0 s1 sl
    have q1 := compL_map (ev := turnC (fun _ M => .ok (.bl true) M) fun σ' M' => evE (orc q.T n) none (.call 14 (.cons (.var 4) (.cons (.var 1) .nil))) σ' M') (tg := .one 4) (g := none) (σ := σ0)
      (fun _ M' => ∃ J, M' = M ++ J) (fun x d => ∀ w, x = enc w → d = .bl (sem w c)) (encs ws) 0 M ⟨[], by simp⟩ (fun _ _ _ => trivial) ?_
    · obtain ⟨ds, M', e, ⟨J, rfl⟩, r⟩ := q1
      rw [bls_of r] at e
      exact ⟨J, e⟩
    · rintro x hx t M' _ _ ⟨J, rfl⟩
      obtain ⟨y0, y1, y2, y3, y4, rfl⟩ : ∃ a b c d e, σ0 = [a, b, c, d, e] := by
        match σ0, sl with
        | [a, b, c, d, e], _ => exact ⟨a, b, c, d, e, rfl⟩
      simp at s1
      subst s1
      rw [encs_map] at hx
      obtain ⟨w, hw', rfl⟩ := List.mem_map.mp hx
      obtain ⟨J2, e2⟩ := hws w hw' (M ++ J)
      refine ⟨_, .bl (sem w c), M ++ J ++ J2, rfl, turnC_true rfl ?_ rfl, ⟨J ++ J2, by simp⟩, fun w2 e => by rw [enc_inj _ _ e]⟩
      simp [e2]
  cases w with
  | any => exact ⟨[], by simp [f__law_lets, b__law_lets, enc, sem, atI_0, lim_ok, in_three]⟩
  | is s =>
    have e := in_strsR s c.marks (M := M ++ [MO.lst (c.marks.map D.str), MO.lst [.str c.nm]]) (app_at ..)
    refine ⟨[.lst (c.marks.map D.str), .lst [.str c.nm]], ?_⟩
    simp [f__law_lets, b__law_lets, enc, sem, atI_0, atI_1, lim_ok, in_three]
    simp [encC, atI_0, atI_2, lim_ok, e]
  | by_ s =>
    have e := in_strsR s [c.nm] (M := M ++ [MO.lst (c.marks.map D.str), MO.lst [.str c.nm]]) (h := M.length + 1) (by simp)
    have e0 : decide (s ∈ [c.nm]) = decide (c.nm = s) := by
      by_cases h : c.nm = s
      · simp [h]
      · have h' : ¬ s = c.nm := fun q => h q.symm
        simp [h, h']
    rw [e0] at e
    refine ⟨[.lst (c.marks.map D.str), .lst [.str c.nm]], ?_⟩
    simp [f__law_lets, b__law_lets, enc, sem, atI_0, atI_1, lim_ok, in_three]
    simp [encC, atI_0, atI_1, atI_2, lim_ok, e]
  | least s m =>
    obtain ⟨ks, vs, e1, e2⟩ := dict_card c hn hl M
    have a := app_at M (.dic false ks vs) []
    have e3 := in_dic a s
    have e4 := ix_dic a s
    rw [e2] at e3 e4
    refine ⟨[.dic false ks vs], ?_⟩
    cases hz : sz c.sizes s with
    | none =>
      rw [hz] at e3
      simp [f__law_lets, b__law_lets, enc, sem, atI_0, lim_ok, in_three, in_two]
      simp [encC, atI_1, atI_3, e1, e3, hz]
    | some k =>
      rw [hz] at e3 e4
      simp [f__law_lets, b__law_lets, enc, sem, atI_0, lim_ok, in_three, in_two]
      simp [encC, atI_0, atI_1, atI_2, atI_3, e1, e3, e4, hz, lim_ok]
  | most s m =>
    obtain ⟨ks, vs, e1, e2⟩ := dict_card c hn hl M
    have a := app_at M (.dic false ks vs) []
    have e3 := in_dic a s
    have e4 := ix_dic a s
    rw [e2] at e3 e4
    refine ⟨[.dic false ks vs], ?_⟩
    cases hz : sz c.sizes s with
    | none =>
      rw [hz] at e3
      simp [f__law_lets, b__law_lets, enc, sem, atI_0, lim_ok, in_three, in_two]
      simp [encC, atI_1, atI_3, e1, e3, hz]
    | some k =>
      rw [hz] at e3 e4
      simp [f__law_lets, b__law_lets, enc, sem, atI_0, lim_ok, in_three, in_two]
      simp [encC, atI_0, atI_1, atI_2, atI_3, e1, e3, e4, hz, lim_ok]
  | not w =>
    obtain ⟨J, e⟩ := ih w (by simpa [okW] using hw) (by simp [dpt]) M
    refine ⟨J, ?_⟩
    simp [f__law_lets, b__law_lets, enc, sem, atI_0, atI_1, lim_ok, in_three, in_two, e]
    cases sem w c <;> rfl
  | and ws =>
    simp only [okW, Bool.and_eq_true, decide_eq_true_eq] at hw
    obtain ⟨J, e⟩ := comp ws (fun w hw' M => ih w (okWs_mem hw.2 w hw') (by have := dpts_le (Nat.le_refl (dpts ws)) w hw'; simp only [dpt]; omega) M) [some (enc (.and ws)), some (encC c), none, none, none] rfl rfl
    have hlen : (encs ws).length < LINE := by rw [encs_map, List.length_map]; exact Nat.lt_of_le_of_lt hw.1 (by decide)
    generalize hM : M ++ J = M2 at e
    have g : (M2 ++ [MO.lst ((sems ws c).map D.bl)])[M2.length]? = some (.lst ((sems ws c).map D.bl)) := app_at ..
    have g1 := count_bls g
    have g2 := bi_len_ref g
    have g3 := isMT_lst g
    rw [List.length_map] at g2
    refine ⟨J ++ [.lst ((sems ws c).map D.bl)], ?_⟩
    rw [← List.append_assoc, hM]
    simp [enc] at e
    simp [f__law_lets, b__law_lets, enc, sem, atI_0, lim_ok, in_three, in_two]
    simp [atI_0, atI_1, itOf, wipeD, hlen, e, BM.ty, g3, g1, g2, lim_ok]
    exact all_count _
  | or ws =>
    simp only [okW, Bool.and_eq_true, decide_eq_true_eq] at hw
    obtain ⟨J, e⟩ := comp ws (fun w hw' M => ih w (okWs_mem hw.2 w hw') (by have := dpts_le (Nat.le_refl (dpts ws)) w hw'; simp only [dpt]; omega) M) [some (enc (.or ws)), some (encC c), none, none, none] rfl rfl
    have hlen : (encs ws).length < LINE := by rw [encs_map, List.length_map]; exact Nat.lt_of_le_of_lt hw.1 (by decide)
    generalize hM : M ++ J = M2 at e
    have g : (M2 ++ [MO.lst ((sems ws c).map D.bl)])[M2.length]? = some (.lst ((sems ws c).map D.bl)) := app_at ..
    have g1 := count_bls g
    have g2 := bi_len_ref g
    have g3 := isMT_lst g
    rw [List.length_map] at g2
    refine ⟨J ++ [.lst ((sems ws c).map D.bl)], ?_⟩
    rw [← List.append_assoc, hM]
    simp [enc] at e
    simp [f__law_lets, b__law_lets, enc, sem, atI_0, lim_ok, in_three, in_two]
    simp [atI_0, atI_1, itOf, wipeD, hlen, e, BM.ty, g3, g1, g2, lim_ok]
    exact any_count _
theorem due_ok (c : Card) (hn : (c.sizes.map (·.1)).Nodup) (hl : c.sizes.length ≤ 4) : ∀ (n : Nat) (w : W), okW w = true → dpt w ≤ n → ∀ M, ∃ J, callN q.T (n + 1) 14 [enc w, encC c] M = .ok (.bl (sem w c)) (M ++ J) := by
  intro n
  induction n with
  | zero => exact fun w ho hw M => due_step c hn hl 0 w ho (fun w' _ h => by omega) M
  | succ n ih => exact fun w ho hw M => due_step c hn hl (n + 1) w ho (fun w' ho' h => ih w' ho' (by omega)) M
end K08

set_option Elab.async false
set_option linter.all false
set_option maxRecDepth 100000
set_option maxHeartbeats 4000000
/-! the law -/
namespace K08
open MI
theorem mul_lit {i j : Int} (hi : i.natAbs ≤ 10 ^ 250) (hj : j.natAbs ≤ 10 ^ 250) (M : Sto) : binop .mul (.int i) (.int j) M = .ok (.int (i * j)) M := by
  have h : (10 : Nat) ^ 250 < 2 ^ 2000 := by decide +kernel
  exact mul_ok (Nat.lt_of_le_of_lt hi h) (Nat.lt_of_le_of_lt hj h) M
theorem cell_ok (n : Nat) (ns : List Int) (M : Sto) : ∃ v, callN q.T (n + 1) 4 [.frl (ns.map D.int), .int 0] M = .ok (.int v) M := by
  rw [callN_f (fi := f__law_cell) rfl _ _ _ rfl]
  cases ns with
  | nil => exact ⟨0, by simp [f__law_cell, b__law_cell]⟩
  | cons a r =>
    have h : (0 : Int) < (r.length : Int) + 1 := by omega
    exact ⟨a, by simp [f__law_cell, b__law_cell, h, atI_0]⟩
theorem store_ok (n : Nat) (v : Int) (M : Sto) : ∃ a b : Int, callN q.T (n + 1) 5 [.int v] M = .ok (.lst [.int a, .int b, .int 0]) M ∧ 0 ≤ a ∧ a < 2 ^ 1000 ∧ 0 ≤ b ∧ b < 2147483647 := by
  have hw : (0 : Int) < 10 ^ 300 := by decide +kernel
  have hp : (10 : Int) ^ 300 < 2 ^ 1000 := by decide +kernel
  have hp2 : (10 : Nat) ^ 300 < 2 ^ 2000 := by decide +kernel
  have d0 := Int.emod_nonneg v (Int.ne_of_gt hw)
  have d1 := Int.emod_lt_of_pos v hw
  have hb : (if (1000000000000000000 : Int) ≤ v then (1 : Int) else 0) = 0 ∨ (if (1000000000000000000 : Int) ≤ v then (1 : Int) else 0) = 1 := by split <;> simp
  have hm : ∀ M, binop .mul (.int (v % 10 ^ 300)) (.int (if (1000000000000000000 : Int) ≤ v then (1 : Int) else 0)) M = .ok (.int ((v % 10 ^ 300) * (if (1000000000000000000 : Int) ≤ v then (1 : Int) else 0))) M := fun M => by
    refine mul_ok (Nat.lt_of_lt_of_le (show (v % 10 ^ 300).natAbs < 10 ^ 300 by omega) (Nat.le_of_lt hp2)) ?_ M
    rcases hb with h | h <;> rw [h] <;> exact Nat.lt_of_le_of_lt (show _ ≤ 10 from by decide) (Nat.lt_of_lt_of_le (show 10 < 10 ^ 300 by decide +kernel) (Nat.le_of_lt hp2))
  refine ⟨(v % 10 ^ 300) * (if (1000000000000000000 : Int) ≤ v then (1 : Int) else 0), v % 2147483647, ?_, ?_, ?_, by omega, by omega⟩
  · rw [callN_f (fi := f__law_store) rfl _ _ _ rfl]
    have e5 : (10 : Int) ^ 60 * 10 ^ 60 * 10 ^ 60 * 10 ^ 60 * 10 ^ 60 = 10 ^ 300 := by decide +kernel
    have hx : ∀ M, binop .mod (.int v) (.int (10 ^ 60 * 10 ^ 60 * 10 ^ 60 * 10 ^ 60 * 10 ^ 60)) M = .ok (.int (v % 10 ^ 300)) M := fun M => by rw [e5]; exact mod_ok hw M
    have w60 : ∀ M, binop .pow (.int 10) (.int 60) M = .ok (.int (10 ^ 60)) M := fun M => pow_ok (by decide) (by decide) (by decide) M
    have w18 : ∀ M, binop .pow (.int 10) (.int 18) M = .ok (.int 1000000000000000000) M := fun M => pow_ok (by decide) (by decide) (by decide) M
    have m1 : ∀ M, binop .mul (.int (10 ^ 60)) (.int (10 ^ 60)) M = .ok (.int (10 ^ 60 * 10 ^ 60)) M := fun M => mul_lit (by decide +kernel) (by decide +kernel) M
    have m2 : ∀ M, binop .mul (.int (10 ^ 60 * 10 ^ 60)) (.int (10 ^ 60)) M = .ok (.int (10 ^ 60 * 10 ^ 60 * 10 ^ 60)) M := fun M => mul_lit (by decide +kernel) (by decide +kernel) M
    have m3 : ∀ M, binop .mul (.int (10 ^ 60 * 10 ^ 60 * 10 ^ 60)) (.int (10 ^ 60)) M = .ok (.int (10 ^ 60 * 10 ^ 60 * 10 ^ 60 * 10 ^ 60)) M := fun M => mul_lit (by decide +kernel) (by decide +kernel) M
    have m4 : ∀ M, binop .mul (.int (10 ^ 60 * 10 ^ 60 * 10 ^ 60 * 10 ^ 60)) (.int (10 ^ 60)) M = .ok (.int (10 ^ 60 * 10 ^ 60 * 10 ^ 60 * 10 ^ 60 * 10 ^ 60)) M := fun M => mul_lit (by decide +kernel) (by decide +kernel) M
    generalize hW : (10 : Int) ^ 60 = W60 at *
    generalize hP : (10 : Int) ^ 300 = P300 at *
    have md : ∀ M, binop .mod (.int v) (.int 2147483647) M = .ok (.int (v % 2147483647)) M := fun M => mod_ok (by decide) M
    simp [f__law_store, b__law_store, w60, m1, m2, m3, m4, hx, w18, hm, md, lim_ok]
  · rcases hb with h | h <;> rw [h] <;> omega
  · rcases hb with h | h <;> rw [h] <;> omega
def Good (x : D) : Prop := ∃ w c, x = .tup [enc w, encC c, .bl (sem w c)] ∧ okW w = true ∧ dpt w ≤ 6
theorem cut_mem {α : Type} {xs : List α} {a b : Option Int} {x : α} (h : x ∈ cut xs a b) : x ∈ xs := by
  unfold cut at h
  exact List.mem_of_mem_drop (List.mem_of_mem_take h)
theorem cut_len {α : Type} (xs : List α) (a b : Option Int) : (cut xs a b).length ≤ xs.length := by
  unfold cut
  rw [List.length_take, List.length_drop]
  omega
def loop2 : S := (.seq (.asg 6 (.call 13 (.cons (.var 3) .nil)))
  (.seq (.asg 7 (.call 14 (.cons (.var 4) (.cons (.var 6) .nil))))
  (.seq (.expr (.meth .append (.var 1) (.cons (.tup (.cons (.var 4) (.cons (.var 6) (.cons (.var 7) .nil)))) .nil)))
  (.seq (.asg 8 (.call 3 (.cons (.var 4) (.cons (.var 6) .nil))))
  (.seq (.ife (.or (.not (.isi (.var 8) .tbool)) (.cmp .ne (.var 8) (.var 7))) (.seq (.ret (.bl false))
  .nop) .nop)
  .nop)))))
theorem append_ok {M : Sto} {h : Nat} {xs : List D} (e : M[h]? = some (.lst xs)) (hl : xs.length < 1000000) (d : D) : meth .append (.ref h) [d] M = .ok .non (M.set h (.lst (xs ++ [d]))) := by
  simp only [meth, e]
  rw [if_pos (Nat.lt_trans hl (by decide))]
theorem isTy_bl (M : Sto) (b : Bool) : isTy M .tbool (.bl b) = some true := rfl
/-- one card -/
theorem turn_ok (n : Nat) {M : Sto} {h c : Nat} {items : List D} {w : W} {y0 y2 y5 y6 y7 y8 y9 : Option D} (hw : okW w = true) (hd : dpt w ≤ 6) (hh : h ≠ 0) (p : Pot M h c) (hc : c < 10 ^ 20) (g : M[0]? = some (.lst items)) (hg : ∀ x ∈ items, Good x) (hl : items.length < 1000000) :
    ∃ σ2 M2 items', evS (orc q.T (n + 20)) none loop2 [y0, some (.ref 0), y2, some (.ref h), some (enc w), y5, y6, y7, y8, y9] M = .nx σ2 M2 ∧ (∃ z6 z7 z8, σ2 = [y0, some (.ref 0), y2, some (.ref h), some (enc w), y5, z6, z7, z8, y9]) ∧ Pot M2 h (c + 20) ∧ M2[0]? = some (.lst items') ∧ (∀ x ∈ items', Good x) ∧ items'.length = items.length + 1 := by
  obtain ⟨cd, M1, e1, nd, sl, p1, c1⟩ := card_ok (n + 10) p hc
  obtain ⟨J, e2⟩ := due_ok cd nd sl (n + 19) w hw (by omega) M1
  have g1 := app_old (c1.get g (Ne.symm hh)) J
  have p1' := p1.app J
  have e3 := append_ok g1 hl (.tup [enc w, encC cd, .bl (sem w cd)])
  have e4 := lets_ok cd (n + 18) w hw (by omega) ((M1 ++ J).set 0 (.lst (items ++ [.tup [enc w, encC cd, .bl (sem w cd)]])))
  have mt := isMT_lst g1
  have h0 : 0 < (M1 ++ J).length := (List.getElem?_eq_some_iff.mp g1).1
  refine ⟨[y0, some (.ref 0), y2, some (.ref h), some (enc w), y5, some (encC cd), some (.bl (sem w cd)), some (.bl (sem w cd)), y9], (M1 ++ J).set 0 (.lst (items ++ [.tup [enc w, encC cd, .bl (sem w cd)]])), items ++ [.tup [enc w, encC cd, .bl (sem w cd)]], ?_, ⟨_, _, _, rfl⟩, ?_, ?_, ?_, by simp⟩
  · generalize hM : M1 ++ J = M2 at *
    simp [loop2, e1, e2, lim_ok, BM.ty, mt, e3, e4, isTy_bl]
  · obtain ⟨a, b, s, e, r⟩ := p1'
    exact ⟨a, b, s, by rw [List.getElem?_set_ne (Ne.symm hh)]; exact e, r⟩
  · rw [List.getElem?_set_self h0]
  · intro x hx
    rcases List.mem_append.mp hx with hx | hx
    · exact hg x hx
    · rw [List.mem_singleton.mp hx]
      exact ⟨w, cd, rfl, hw, hd⟩
theorem law_ok (n : Nat) (ns : List Int) (hn : ns.length ≤ 63) : ∃ M, callN q.T (n + 30) 15 [.frl (ns.map D.int)] [] = .ok (.bl true) M := by
  obtain ⟨v, ev⟩ := cell_ok (n + 28) ns [.lst []]
  have loop := forL_inv (body := evS (orc q.T (n + 29)) none (.seq (.asg 3 (.call 5 (.cons (.var 2) .nil)))
      (.seq (.asg 4 (.call 12 (.cons (.var 3) .nil))) (.seq (.for_ (.one 5) (.range1 (.int 5)) loop2) .nop)))) (tg := .one 2) (g := none)
    (fun j σ M => ∃ y2 y3 y4 y5 y6 y7 y8 y9 items, σ = [some (.frl (ns.map D.int)), some (.ref 0), y2, y3, y4, y5, y6, y7, y8, y9] ∧ M[0]? = some (.lst items) ∧ (∀ x ∈ items, Good x) ∧ items.length ≤ 5 * j)
    ([.int v] ++ cut (ns.map D.int) (some 1) (some 25)) 0 [some (.frl (ns.map D.int)), some (.ref 0), none, none, none, none, none, none, none, none] [.lst []]
    ⟨_, _, _, _, _, _, _, _, [], rfl, rfl, by simp, by simp⟩ (fun _ _ _ _ => trivial) ?_
  · obtain ⟨σ', M', e, y2, y3, y4, y5, y6, y7, y8, y9, items, rfl, g, hg, hl⟩ := loop
    have hcut := cut_len (ns.map D.int) (some 1) (some 25)
    rw [List.length_map] at hcut
    have hl2 : items.length ≤ 1000 := by rw [List.length_append, List.length_singleton] at hl; omega
    refine ⟨M', ?_⟩
    rw [callN_f (fi := f_law) rfl _ _ _ rfl]
    have ha : ∀ M, binop .add (.lst [.int v]) (.lst (cut (ns.map D.int) (some 1) (some 25))) M = .ok (.lst ([.int v] ++ cut (ns.map D.int) (some 1) (some 25))) M := fun M => by
      simp only [binop, lstOf, ofO_some]
      exact lim_ok (by simp only [List.length_singleton]; omega)
    have hs : ∀ M, slop (.frl (ns.map D.int)) (some 1) (some 25) M = .ok (.lst (cut (ns.map D.int) (some 1) (some 25))) M := fun M => rfl
    have hr : revop (.ref 0) M' = .ok (.lst items.reverse) M' := by simp [revop, MI.items, g]
    have comp : ∀ σ0 : MI.Env, σ0 = [some (.frl (ns.map D.int)), some (.ref 0), y2, y3, y4, y5, y6, y7, y8, none] → compL (turnC (fun σ' M' => evE (orc q.T (n + 29)) none (.cmp .ne (.call 3 (.cons (.ix (.var 9) (.int 0)) (.cons (.ix (.var 9) (.int 1)) .nil))) (.ix (.var 9) (.int 2))) σ' M') fun σ' M' => evE (orc q.T (n + 29)) none (.var 9) σ' M') (.one 9) none σ0 items.reverse M' = .ok [] M' := by
      rintro σ0 rfl
      have := compL_one (ev := turnC (fun σ' M' => evE (orc q.T (n + 29)) none (.cmp .ne (.call 3 (.cons (.ix (.var 9) (.int 0)) (.cons (.ix (.var 9) (.int 1)) .nil))) (.ix (.var 9) (.int 2))) σ' M') fun σ' M' => evE (orc q.T (n + 29)) none (.var 9) σ' M') (i := 9) (g := none) (σ := [some (.frl (ns.map D.int)), some (.ref 0), y2, y3, y4, y5, y6, y7, y8, none]) items.reverse (fun _ => none) M' trivial (fun x hx => by
        obtain ⟨w, c, rfl, ow, dw⟩ := hg x (List.mem_reverse.mp hx)
        have l := lets_ok c (n + 27) w ow (by omega) M'
        simp [turnC, atI_0, atI_1, atI_2, l])
      rw [this]
      simp
    have cm := comp _ rfl
    have hlen : items.length < LINE := Nat.lt_of_le_of_lt hl2 (by decide)
    have he : eqO M' (.lst []) (.lst []) = some true := by simp [eqO, rs, dat, deq, deqs]
    have hq : cmpop .eq (.lst []) (.lst []) M' = .ok (.bl true) M' := by simp only [cmpop, he, ofO_some]
    unfold loop2 at e
    simp at cm
    simp [f_law, b_law, lim_ok, ev, hs, ha, itOf]
    simp at e
    simp [e, hr, hlen, wipeD, cm, hq, itOf, lim_ok]
  · rintro x hx j σ M _ hj ⟨y2, y3, y4, y5, y6, y7, y8, y9, items, rfl, g, hg, hl⟩
    have hcut := cut_len (ns.map D.int) (some 1) (some 25)
    rw [List.length_map] at hcut
    rw [List.length_append, List.length_singleton] at hj
    obtain ⟨v, rfl⟩ : ∃ v, x = .int v := by
      rcases List.mem_append.mp hx with hx | hx
      · exact ⟨_, List.mem_singleton.mp hx⟩
      · obtain ⟨v, _, rfl⟩ := List.mem_map.mp (cut_mem hx)
        exact ⟨v, rfl⟩
    obtain ⟨a, b, e1, a0, a1, b0, b1⟩ := store_ok (n + 28) v M
    have h0 : 0 < M.length := (List.getElem?_eq_some_iff.mp g).1
    have p0 : Pot (M ++ [.lst [.int a, .int b, .int 0]]) M.length 0 := ⟨a, b, 0, app_at .., a0, a1, b0, b1, by decide, by decide⟩
    obtain ⟨w, M1, e2, d2, o2, p1, c1⟩ := good_ok (n + 19) p0 (by decide)
    have g1 := c1.get (app_old g [.lst [.int a, .int b, .int 0]]) (by omega)
    have loop := forL_inv (body := evS (orc q.T (n + 29)) none loop2) (tg := .one 5) (g := none)
      (fun j' σ M' => ∃ z5 z6 z7 z8 items', σ = [some (.frl (ns.map D.int)), some (.ref 0), some (.int v), some (.ref M.length), some (enc w), z5, z6, z7, z8, y9] ∧ Pot M' M.length (0 + 10 ^ 8 + j' * 20) ∧ M'[0]? = some (.lst items') ∧ (∀ x ∈ items', Good x) ∧ items'.length = items.length + j')
      (rngD 0 5) 0 [some (.frl (ns.map D.int)), some (.ref 0), some (.int v), some (.ref M.length), some (enc w), y5, y6, y7, y8, y9] M1 ⟨_, _, _, _, items, rfl, by simpa using p1, g1, hg, rfl⟩ (fun _ _ _ _ => trivial) ?_
    · obtain ⟨σ2, M2, e3, z5, z6, z7, z8, items', rfl, p2, g2, hg2, hl2⟩ := loop
      rw [rng_len] at hl2
      refine ⟨_, [some (.frl (ns.map D.int)), some (.ref 0), some (.int v), some (.ref M.length), some (enc w), z5, z6, z7, z8, y9], M2, rfl, ?_, some (.int v), some (.ref M.length), some (enc w), z5, z6, z7, z8, y9, items', rfl, g2, hg2, by omega⟩
      simp [e1, e2, e3]
    · rintro x hx j' σ M' _ hj' ⟨z5, z6, z7, z8, items', rfl, p', g', hg', hl'⟩
      rw [rng_len] at hj'
      obtain ⟨σ2, M2, it2, f1, ⟨u6, u7, u8, rfl⟩, f3, f4, f5, f6⟩ := turn_ok (n + 9) (y0 := some (.frl (ns.map D.int))) (y2 := some (.int v)) (y5 := some x) (y6 := z6) (y7 := z7) (y8 := z8) (y9 := y9) o2 d2 (by omega) p' (by omega) g' hg' (by omega)
      exact ⟨_, _, M2, rfl, f1, _, _, _, _, it2, rfl, by rw [show 0 + 10 ^ 8 + (j' + 1) * 20 = 0 + 10 ^ 8 + j' * 20 + 20 from by omega]; exact f3, f4, f5, by omega⟩
end K08

set_option Elab.async false
set_option linter.all false
set_option maxRecDepth 100000
namespace K08
open PySem PySem.Spec PyProof.Rows L2 MI
theorem tops {K : PySem.W.Frag} {h : Heap} {mg : Str → Option Value} (X : K.In h) (G : h.Ns mainGlobals mg)
    {a0 : Addr} {od0 an0 : Option Addr} {sl0 : Array (Option Value)} {oc0 kV0 dc0 pm0 cd0 ct0 : Value}
    (a0h : PySem.W.nsIn K mainGlobals "has_mark" = some (some (.ref a0))) (l0 : K.lookup a0 = some ⟨oc0, od0, .func (PySem.W.fnOf "has_mark" "has_mark" (defArgs (top 1)) (defBody (top 1)) (defScope (top 1)) .none kV0 dc0 pm0 an0 cd0 ct0), sl0⟩) (c0 : PySem.W.codeIn K cd0 "has_mark" = true) (k0 : PySem.W.keepIn K (.ref a0) = true)
    {a1 : Addr} {od1 an1 : Option Addr} {sl1 : Array (Option Value)} {oc1 kV1 dc1 pm1 cd1 ct1 : Value}
    (a1h : PySem.W.nsIn K mainGlobals "size_of" = some (some (.ref a1))) (l1 : K.lookup a1 = some ⟨oc1, od1, .func (PySem.W.fnOf "size_of" "size_of" (defArgs (top 2)) (defBody (top 2)) (defScope (top 2)) .none kV1 dc1 pm1 an1 cd1 ct1), sl1⟩) (c1 : PySem.W.codeIn K cd1 "size_of" = true) (k1 : PySem.W.keepIn K (.ref a1) = true)
    {a2 : Addr} {od2 an2 : Option Addr} {sl2 : Array (Option Value)} {oc2 kV2 dc2 pm2 cd2 ct2 : Value}
    (a2h : PySem.W.nsIn K mainGlobals "lets_size" = some (some (.ref a2))) (l2 : K.lookup a2 = some ⟨oc2, od2, .func (PySem.W.fnOf "lets_size" "lets_size" (defArgs (top 4)) (defBody (top 4)) (defScope (top 4)) .none kV2 dc2 pm2 an2 cd2 ct2), sl2⟩) (c2 : PySem.W.codeIn K cd2 "lets_size" = true) (k2 : PySem.W.keepIn K (.ref a2) = true)
    {a3 : Addr} {od3 an3 : Option Addr} {sl3 : Array (Option Value)} {oc3 kV3 dc3 pm3 cd3 ct3 : Value}
    (a3h : PySem.W.nsIn K mainGlobals "lets" = some (some (.ref a3))) (l3 : K.lookup a3 = some ⟨oc3, od3, .func (PySem.W.fnOf "lets" "lets" (defArgs (top 5)) (defBody (top 5)) (defScope (top 5)) .none kV3 dc3 pm3 an3 cd3 ct3), sl3⟩) (c3 : PySem.W.codeIn K cd3 "lets" = true) (k3 : PySem.W.keepIn K (.ref a3) = true)
    {a4 : Addr} {od4 an4 : Option Addr} {sl4 : Array (Option Value)} {oc4 kV4 dc4 pm4 cd4 ct4 : Value}
    (a4h : PySem.W.nsIn K mainGlobals "_law_cell" = some (some (.ref a4))) (l4 : K.lookup a4 = some ⟨oc4, od4, .func (PySem.W.fnOf "_law_cell" "_law_cell" (defArgs (top 7)) (defBody (top 7)) (defScope (top 7)) .none kV4 dc4 pm4 an4 cd4 ct4), sl4⟩) (c4 : PySem.W.codeIn K cd4 "_law_cell" = true) (k4 : PySem.W.keepIn K (.ref a4) = true)
    {a5 : Addr} {od5 an5 : Option Addr} {sl5 : Array (Option Value)} {oc5 kV5 dc5 pm5 cd5 ct5 : Value}
    (a5h : PySem.W.nsIn K mainGlobals "_law_store" = some (some (.ref a5))) (l5 : K.lookup a5 = some ⟨oc5, od5, .func (PySem.W.fnOf "_law_store" "_law_store" (defArgs (top 8)) (defBody (top 8)) (defScope (top 8)) .none kV5 dc5 pm5 an5 cd5 ct5), sl5⟩) (c5 : PySem.W.codeIn K cd5 "_law_store" = true) (k5 : PySem.W.keepIn K (.ref a5) = true)
    {a6 : Addr} {od6 an6 : Option Addr} {sl6 : Array (Option Value)} {oc6 kV6 dc6 pm6 cd6 ct6 : Value}
    (a6h : PySem.W.nsIn K mainGlobals "_law_pick" = some (some (.ref a6))) (l6 : K.lookup a6 = some ⟨oc6, od6, .func (PySem.W.fnOf "_law_pick" "_law_pick" (defArgs (top 9)) (defBody (top 9)) (defScope (top 9)) .none kV6 dc6 pm6 an6 cd6 ct6), sl6⟩) (c6 : PySem.W.codeIn K cd6 "_law_pick" = true) (k6 : PySem.W.keepIn K (.ref a6) = true)
    {a7 : Addr} {od7 an7 : Option Addr} {sl7 : Array (Option Value)} {oc7 kV7 dc7 pm7 cd7 ct7 : Value}
    (a7h : PySem.W.nsIn K mainGlobals "_law_word" = some (some (.ref a7))) (l7 : K.lookup a7 = some ⟨oc7, od7, .func (PySem.W.fnOf "_law_word" "_law_word" (defArgs (top 10)) (defBody (top 10)) (defScope (top 10)) .none kV7 dc7 pm7 an7 cd7 ct7), sl7⟩) (c7 : PySem.W.codeIn K cd7 "_law_word" = true) (k7 : PySem.W.keepIn K (.ref a7) = true)
    {a8 : Addr} {od8 an8 : Option Addr} {sl8 : Array (Option Value)} {oc8 kV8 dc8 pm8 cd8 ct8 : Value}
    (a8h : PySem.W.nsIn K mainGlobals "_law_number" = some (some (.ref a8))) (l8 : K.lookup a8 = some ⟨oc8, od8, .func (PySem.W.fnOf "_law_number" "_law_number" (defArgs (top 11)) (defBody (top 11)) (defScope (top 11)) .none kV8 dc8 pm8 an8 cd8 ct8), sl8⟩) (c8 : PySem.W.codeIn K cd8 "_law_number" = true) (k8 : PySem.W.keepIn K (.ref a8) = true)
    {a9 : Addr} {od9 an9 : Option Addr} {sl9 : Array (Option Value)} {oc9 kV9 dc9 pm9 cd9 ct9 : Value}
    (a9h : PySem.W.nsIn K mainGlobals "_law_leaf" = some (some (.ref a9))) (l9 : K.lookup a9 = some ⟨oc9, od9, .func (PySem.W.fnOf "_law_leaf" "_law_leaf" (defArgs (top 12)) (defBody (top 12)) (defScope (top 12)) .none kV9 dc9 pm9 an9 cd9 ct9), sl9⟩) (c9 : PySem.W.codeIn K cd9 "_law_leaf" = true) (k9 : PySem.W.keepIn K (.ref a9) = true)
    {a10 : Addr} {od10 an10 : Option Addr} {sl10 : Array (Option Value)} {oc10 kV10 dc10 pm10 cd10 ct10 : Value}
    (a10h : PySem.W.nsIn K mainGlobals "_law_wish" = some (some (.ref a10))) (l10 : K.lookup a10 = some ⟨oc10, od10, .func (PySem.W.fnOf "_law_wish" "_law_wish" (defArgs (top 13)) (defBody (top 13)) (defScope (top 13)) .none kV10 dc10 pm10 an10 cd10 ct10), sl10⟩) (c10 : PySem.W.codeIn K cd10 "_law_wish" = true) (k10 : PySem.W.keepIn K (.ref a10) = true)
    {a11 : Addr} {od11 an11 : Option Addr} {sl11 : Array (Option Value)} {oc11 kV11 dc11 pm11 cd11 ct11 : Value}
    (a11h : PySem.W.nsIn K mainGlobals "_law_parts" = some (some (.ref a11))) (l11 : K.lookup a11 = some ⟨oc11, od11, .func (PySem.W.fnOf "_law_parts" "_law_parts" (defArgs (top 14)) (defBody (top 14)) (defScope (top 14)) .none kV11 dc11 pm11 an11 cd11 ct11), sl11⟩) (c11 : PySem.W.codeIn K cd11 "_law_parts" = true) (k11 : PySem.W.keepIn K (.ref a11) = true)
    {a12 : Addr} {od12 an12 : Option Addr} {sl12 : Array (Option Value)} {oc12 kV12 dc12 pm12 cd12 ct12 : Value}
    (a12h : PySem.W.nsIn K mainGlobals "_law_good" = some (some (.ref a12))) (l12 : K.lookup a12 = some ⟨oc12, od12, .func (PySem.W.fnOf "_law_good" "_law_good" (defArgs (top 15)) (defBody (top 15)) (defScope (top 15)) .none kV12 dc12 pm12 an12 cd12 ct12), sl12⟩) (c12 : PySem.W.codeIn K cd12 "_law_good" = true) (k12 : PySem.W.keepIn K (.ref a12) = true)
    {a13 : Addr} {od13 an13 : Option Addr} {sl13 : Array (Option Value)} {oc13 kV13 dc13 pm13 cd13 ct13 : Value}
    (a13h : PySem.W.nsIn K mainGlobals "_law_card" = some (some (.ref a13))) (l13 : K.lookup a13 = some ⟨oc13, od13, .func (PySem.W.fnOf "_law_card" "_law_card" (defArgs (top 16)) (defBody (top 16)) (defScope (top 16)) .none kV13 dc13 pm13 an13 cd13 ct13), sl13⟩) (c13 : PySem.W.codeIn K cd13 "_law_card" = true) (k13 : PySem.W.keepIn K (.ref a13) = true)
    {a14 : Addr} {od14 an14 : Option Addr} {sl14 : Array (Option Value)} {oc14 kV14 dc14 pm14 cd14 ct14 : Value}
    (a14h : PySem.W.nsIn K mainGlobals "_law_lets" = some (some (.ref a14))) (l14 : K.lookup a14 = some ⟨oc14, od14, .func (PySem.W.fnOf "_law_lets" "_law_lets" (defArgs (top 17)) (defBody (top 17)) (defScope (top 17)) .none kV14 dc14 pm14 an14 cd14 ct14), sl14⟩) (c14 : PySem.W.codeIn K cd14 "_law_lets" = true) (k14 : PySem.W.keepIn K (.ref a14) = true)
    {a15 : Addr} {od15 an15 : Option Addr} {sl15 : Array (Option Value)} {oc15 kV15 dc15 pm15 cd15 ct15 : Value}
    (a15h : PySem.W.nsIn K mainGlobals "law" = some (some (.ref a15))) (l15 : K.lookup a15 = some ⟨oc15, od15, .func (PySem.W.fnOf "law" "law" (defArgs (top 18)) (defBody (top 18)) (defScope (top 18)) .none kV15 dc15 pm15 an15 cd15 ct15), sl15⟩) (c15 : PySem.W.codeIn K cd15 "law" = true) (k15 : PySem.W.keepIn K (.ref a15) = true)
    (z0 : PySem.W.nsIn K mainGlobals "len" = some none)
    (z1 : PySem.W.nsIn K mainGlobals "all" = some none)
    (z2 : PySem.W.nsIn K mainGlobals "any" = some none)
    (z3 : PySem.W.nsIn K mainGlobals "sum" = some none)
    (z4 : PySem.W.nsIn K mainGlobals "min" = some none)
    (z5 : PySem.W.nsIn K mainGlobals "max" = some none)
    (z6 : PySem.W.nsIn K mainGlobals "int" = some none)
    (z7 : PySem.W.nsIn K mainGlobals "str" = some none)
    (z8 : PySem.W.nsIn K mainGlobals "tuple" = some none)
    (z9 : PySem.W.nsIn K mainGlobals "list" = some none)
    (z10 : PySem.W.nsIn K mainGlobals "sorted" = some none)
    (z11 : PySem.W.nsIn K mainGlobals "dict" = some none)
    (z12 : PySem.W.nsIn K mainGlobals "range" = some none)
    (z13 : PySem.W.nsIn K mainGlobals "set" = some none)
    (z14 : PySem.W.nsIn K mainGlobals "isinstance" = some none)
    (z15 : PySem.W.nsIn K mainGlobals "bool" = some none)
    (z16 : PySem.W.nsIn K mainGlobals "enumerate" = some none)
    (z17 : PySem.W.nsIn K mainGlobals "zip" = some none)
    : Tops ⟨K, fun _ => 0, fun _ => Str.empty⟩ mg q ∧ mg "law" = some (.ref a15) ∧ ∀ fd, (∃ st, Fun K "law" "law" st a15 fd) → ∀ (s : Shared) (u : Value), BindsTo s fd ⟨[u], []⟩ [("_law_script", u)] := by
  have F0 := fun_mk (st := top 1) l0 c0 k0
  have D0 : Def K mg q f_has_mark := ⟨⟨_, _, _, PySem.W.mg_of X G a0h, F0, F0.binds (ps := f_has_mark.ps) fun _ _ _ _ _ _ us hl => match us, hl with | [_, _], _ => rfl, s_has_mark, c_has_mark⟩⟩
  have F1 := fun_mk (st := top 2) l1 c1 k1
  have D1 : Def K mg q f_size_of := ⟨⟨_, _, _, PySem.W.mg_of X G a1h, F1, F1.binds (ps := f_size_of.ps) fun _ _ _ _ _ _ us hl => match us, hl with | [_, _], _ => rfl, s_size_of, c_size_of⟩⟩
  have F2 := fun_mk (st := top 4) l2 c2 k2
  have D2 : Def K mg q f_lets_size := ⟨⟨_, _, _, PySem.W.mg_of X G a2h, F2, F2.binds (ps := f_lets_size.ps) fun _ _ _ _ _ _ us hl => match us, hl with | [_, _], _ => rfl, s_lets_size, c_lets_size⟩⟩
  have F3 := fun_mk (st := top 5) l3 c3 k3
  have D3 : Def K mg q f_lets := ⟨⟨_, _, _, PySem.W.mg_of X G a3h, F3, F3.binds (ps := f_lets.ps) fun _ _ _ _ _ _ us hl => match us, hl with | [_, _], _ => rfl, s_lets, c_lets⟩⟩
  have F4 := fun_mk (st := top 7) l4 c4 k4
  have D4 : Def K mg q f__law_cell := ⟨⟨_, _, _, PySem.W.mg_of X G a4h, F4, F4.binds (ps := f__law_cell.ps) fun _ _ _ _ _ _ us hl => match us, hl with | [_, _], _ => rfl, s__law_cell, c__law_cell⟩⟩
  have F5 := fun_mk (st := top 8) l5 c5 k5
  have D5 : Def K mg q f__law_store := ⟨⟨_, _, _, PySem.W.mg_of X G a5h, F5, F5.binds (ps := f__law_store.ps) fun _ _ _ _ _ _ us hl => match us, hl with | [_], _ => rfl, s__law_store, c__law_store⟩⟩
  have F6 := fun_mk (st := top 9) l6 c6 k6
  have D6 : Def K mg q f__law_pick := ⟨⟨_, _, _, PySem.W.mg_of X G a6h, F6, F6.binds (ps := f__law_pick.ps) fun _ _ _ _ _ _ us hl => match us, hl with | [_, _], _ => rfl, s__law_pick, c__law_pick⟩⟩
  have F7 := fun_mk (st := top 10) l7 c7 k7
  have D7 : Def K mg q f__law_word := ⟨⟨_, _, _, PySem.W.mg_of X G a7h, F7, F7.binds (ps := f__law_word.ps) fun _ _ _ _ _ _ us hl => match us, hl with | [_], _ => rfl, s__law_word, c__law_word⟩⟩
  have F8 := fun_mk (st := top 11) l8 c8 k8
  have D8 : Def K mg q f__law_number := ⟨⟨_, _, _, PySem.W.mg_of X G a8h, F8, F8.binds (ps := f__law_number.ps) fun _ _ _ _ _ _ us hl => match us, hl with | [_], _ => rfl, s__law_number, c__law_number⟩⟩
  have F9 := fun_mk (st := top 12) l9 c9 k9
  have D9 : Def K mg q f__law_leaf := ⟨⟨_, _, _, PySem.W.mg_of X G a9h, F9, F9.binds (ps := f__law_leaf.ps) fun _ _ _ _ _ _ us hl => match us, hl with | [_], _ => rfl, s__law_leaf, c__law_leaf⟩⟩
  have F10 := fun_mk (st := top 13) l10 c10 k10
  have D10 : Def K mg q f__law_wish := ⟨⟨_, _, _, PySem.W.mg_of X G a10h, F10, F10.binds (ps := f__law_wish.ps) fun _ _ _ _ _ _ us hl => match us, hl with | [_, _], _ => rfl, s__law_wish, c__law_wish⟩⟩
  have F11 := fun_mk (st := top 14) l11 c11 k11
  have D11 : Def K mg q f__law_parts := ⟨⟨_, _, _, PySem.W.mg_of X G a11h, F11, F11.binds (ps := f__law_parts.ps) fun _ _ _ _ _ _ us hl => match us, hl with | [_], _ => rfl, s__law_parts, c__law_parts⟩⟩
  have F12 := fun_mk (st := top 15) l12 c12 k12
  have D12 : Def K mg q f__law_good := ⟨⟨_, _, _, PySem.W.mg_of X G a12h, F12, F12.binds (ps := f__law_good.ps) fun _ _ _ _ _ _ us hl => match us, hl with | [_], _ => rfl, s__law_good, c__law_good⟩⟩
  have F13 := fun_mk (st := top 16) l13 c13 k13
  have D13 : Def K mg q f__law_card := ⟨⟨_, _, _, PySem.W.mg_of X G a13h, F13, F13.binds (ps := f__law_card.ps) fun _ _ _ _ _ _ us hl => match us, hl with | [_], _ => rfl, s__law_card, c__law_card⟩⟩
  have F14 := fun_mk (st := top 17) l14 c14 k14
  have D14 : Def K mg q f__law_lets := ⟨⟨_, _, _, PySem.W.mg_of X G a14h, F14, F14.binds (ps := f__law_lets.ps) fun _ _ _ _ _ _ us hl => match us, hl with | [_, _], _ => rfl, s__law_lets, c__law_lets⟩⟩
  have F15 := fun_mk (st := top 18) l15 c15 k15
  have D15 : Def K mg q f_law := ⟨⟨_, _, _, PySem.W.mg_of X G a15h, F15, F15.binds (ps := f_law.ps) fun _ _ _ _ _ _ us hl => match us, hl with | [_], _ => rfl, s_law, c_law⟩⟩
  refine ⟨⟨fun f fi hf => ?_, fun g d hg => (by cases hg), fun b => ?_, PySem.W.mg_none_of X G z12, PySem.W.mg_none_of X G z13, PySem.W.mg_none_of X G z14, fun t => ?_⟩, PySem.W.mg_of X G a15h, fun fd hfd s u => ?_⟩
  · have hm : fi ∈ fns := List.mem_of_getElem? hf
    unfold fns at hm
    simp only [List.mem_cons, List.not_mem_nil, or_false] at hm
    rcases hm with rfl | rfl | rfl | rfl | rfl | rfl | rfl | rfl | rfl | rfl | rfl | rfl | rfl | rfl | rfl | rfl
    · exact D0
    · exact D1
    · exact D2
    · exact D3
    · exact D4
    · exact D5
    · exact D6
    · exact D7
    · exact D8
    · exact D9
    · exact D10
    · exact D11
    · exact D12
    · exact D13
    · exact D14
    · exact D15
  · cases b with
    | len => exact PySem.W.mg_none_of X G z0
    | all => exact PySem.W.mg_none_of X G z1
    | any => exact PySem.W.mg_none_of X G z2
    | sum => exact PySem.W.mg_none_of X G z3
    | min2 => exact PySem.W.mg_none_of X G z4
    | max2 => exact PySem.W.mg_none_of X G z5
    | minL => exact PySem.W.mg_none_of X G z4
    | int => exact PySem.W.mg_none_of X G z6
    | str => exact PySem.W.mg_none_of X G z7
    | tuple => exact PySem.W.mg_none_of X G z8
    | list => exact PySem.W.mg_none_of X G z9
    | sorted => exact PySem.W.mg_none_of X G z10
    | lenset => exact PySem.W.mg_none_of X G z0
    | sortset => exact PySem.W.mg_none_of X G z10
    | dict => exact PySem.W.mg_none_of X G z11
  · cases t with
    | tint => exact PySem.W.mg_none_of X G z6
    | tbool => exact PySem.W.mg_none_of X G z15
    | tstr => exact PySem.W.mg_none_of X G z7
    | ttuple => exact PySem.W.mg_none_of X G z8
    | tlist => exact PySem.W.mg_none_of X G z9
    | tdict => exact PySem.W.mg_none_of X G z11
  · obtain ⟨st, hF⟩ := hfd
    obtain ⟨oc, od, kV, doc, pm, an, cdv, ct, osl, e, lk, _⟩ := hF.ex
    rw [l15] at lk
    injection lk with lk
    injection lk with _ _ lk _
    injection lk with lk
    rw [← lk]
    exact .of_eq rfl
def depth : Nat := 100
theorem law_holds : ∀ ns : List Int, ns.length ≤ 63 → ∃ M, callN q.T depth 15 [.frl (ns.map D.int)] [] = .ok (.bl true) M := fun ns hn => law_ok 70 ns hn
end K08
open PySem PySem.W PyProof.Rows
set_option maxHeartbeats 0 in
theorem PySem.Challenge.cw_matepoint_k08_what_wishes_let_holds : PySem.Challenge.rw_matepoint_k08_what_wishes_let.Holds := by
  w_on; o_law; k_head; (case hw => w_witness2)
  k_fill
  refine MI.law_walk (l := PySem.Challenge.rw_matepoint_k08_what_wishes_let) (q := K08.q) (k := K08.depth) (f := 15) (fi := K08.f_law) (x := "_law_script") (cls := fun _ _ => 0) (fld := fun _ => Str.empty) rfl rfl ⟨rfl, by decide, by decide⟩ (fun w h Y => PySem.W.kIn_of Y) rfl rfl rfl ?F K08.law_holds
  case F =>
    intro w mg fa h KX G hmg
    refine' MI.tops_to (fa := fa) (P := fun a => ∀ fd, (∃ st, L2.Fun _ "law" "law" st a fd) → ∀ (s : Shared) (u : Value), BindsTo s fd ⟨[u], []⟩ [("_law_script", u)]) hmg (K08.tops KX G ?a0h ?l0 ?c0 ?k0 ?a1h ?l1 ?c1 ?k1 ?a2h ?l2 ?c2 ?k2 ?a3h ?l3 ?c3 ?k3 ?a4h ?l4 ?c4 ?k4 ?a5h ?l5 ?c5 ?k5 ?a6h ?l6 ?c6 ?k6 ?a7h ?l7 ?c7 ?k7 ?a8h ?l8 ?c8 ?k8 ?a9h ?l9 ?c9 ?k9 ?a10h ?l10 ?c10 ?k10 ?a11h ?l11 ?c11 ?k11 ?a12h ?l12 ?c12 ?k12 ?a13h ?l13 ?c13 ?k13 ?a14h ?l14 ?c14 ?k14 ?a15h ?l15 ?c15 ?k15 ?z0 ?z1 ?z2 ?z3 ?z4 ?z5 ?z6 ?z7 ?z8 ?z9 ?z10 ?z11 ?z12 ?z13 ?z14 ?z15 ?z16 ?z17)
    (case a0h => k_is); (case l0 => k_is); (case c0 => k_is); (case k0 => k_is); (case a1h => k_is); (case l1 => k_is); (case c1 => k_is); (case k1 => k_is); (case a2h => k_is); (case l2 => k_is); (case c2 => k_is); (case k2 => k_is); (case a3h => k_is); (case l3 => k_is); (case c3 => k_is); (case k3 => k_is); (case a4h => k_is); (case l4 => k_is); (case c4 => k_is); (case k4 => k_is); (case a5h => k_is); (case l5 => k_is); (case c5 => k_is); (case k5 => k_is); (case a6h => k_is); (case l6 => k_is); (case c6 => k_is); (case k6 => k_is); (case a7h => k_is); (case l7 => k_is); (case c7 => k_is); (case k7 => k_is); (case a8h => k_is); (case l8 => k_is); (case c8 => k_is); (case k8 => k_is); (case a9h => k_is); (case l9 => k_is); (case c9 => k_is); (case k9 => k_is); (case a10h => k_is); (case l10 => k_is); (case c10 => k_is); (case k10 => k_is); (case a11h => k_is); (case l11 => k_is); (case c11 => k_is); (case k11 => k_is); (case a12h => k_is); (case l12 => k_is); (case c12 => k_is); (case k12 => k_is); (case a13h => k_is); (case l13 => k_is); (case c13 => k_is); (case k13 => k_is); (case a14h => k_is); (case l14 => k_is); (case c14 => k_is); (case k14 => k_is); (case a15h => k_is); (case l15 => k_is); (case c15 => k_is); (case k15 => k_is); (case z0 => k_is); (case z1 => k_is); (case z2 => k_is); (case z3 => k_is); (case z4 => k_is); (case z5 => k_is); (case z6 => k_is); (case z7 => k_is); (case z8 => k_is); (case z9 => k_is); (case z10 => k_is); (case z11 => k_is); (case z12 => k_is); (case z13 => k_is); (case z14 => k_is); (case z15 => k_is); (case z16 => k_is); (case z17 => k_is)

