import PyProof.Rows.All
import Wide.All
import OpenK.AllK
import Wide.FinOn
import HandS.ForMost
import HandS.Deep
import HandS.TupLe
import HandS.Text
import HandS.Replace
import HandS.Iter
import HandS.SortRule
import HandS.SortInts
import HandS.Dict
import HandS.More
import KE.LtData
import HandS.Lambda
import HandS.HeadHook4
import HandS.Codes
import HandS.ExcIs
import HandS.ExcField
import KE.KExcIs
import HandS.Head0
import HandS.Head1
import HandS.Head2
import HandS.HeadEnd
import HandS.HeadHook1
import HandS.HeadHook2
import HandS.HeadHook3
import HandS.HeadNt
import HandS.EndTab
import HandS.HeadWalk
import HandS.TupAny
import HandS.Wide
import HandS.WideBits
import HandS.IsInst
import PyProof.StrOps2
import KE.DataMinMax
import HandS.SortKw
import HandS.RaiseMore
import HandS.ForExc
import HandS.CallSlots
import KE.KAssignIn
import HandS.TryOnly
import HandS.Style
import HandS.TryMany
import HandS.WordsExc
import HandS.Defaults
import HandS.ExcInit
import HandS.Set
import HandS.SetFor
import HandS.ExcValue
import HandS.HotCalls
import PySem.Challenge.RW_namehouses_k81_rows_as_texts
set_option Elab.async false
set_option linter.all false
set_option maxRecDepth 100000
set_option maxHeartbeats 4000000
/-! BV: Python's values as trees, a store of handles, an intermediate language and what it means. -/
namespace BV
open PySem PySem.Spec
inductive T where
  | non | bl (b : Bool) | int (i : Int) | str (x : Str) | ty (n : String)
  | lst (xs : List T) | tup (xs : List T) | obj (c : Nat) (xs : List T)
  | hd (n : Nat) | scr (xs : List Int) | exn (c : Nat) (xs : List T)
  /-- a def of the program by its name; a lambda that tells None -/
  | fn (x : Option Str)
/-- a thing that may change, at a handle -/
inductive Cell where
  | lst (xs : List T) | ins (c : Nat) (xs : List T) | dK (kvs : List (L2.Key × T))
  /-- the table of code objects of the def x; q its lambdas' name -/
  | tab (x q : Str)
abbrev Sto := List Cell
abbrev Sl := List (Option T)
inductive Rs (α : Type) where
  | ok (a : α) (m : Sto) | exc (c : Nat) (xs : List T) (m : Sto) | bad
abbrev Fn := List T → Sto → Rs T
inductive RS where
  | nx (e : Sl) (m : Sto) | rt (t : T) (m : Sto) | bk (e : Sl) (m : Sto) | ct (e : Sl) (m : Sto)
  | exc (c : Nat) (xs : List T) (e : Sl) (m : Sto) | bad
def Rs.bind {α β : Type} (r : Rs α) (k : α → Sto → Rs β) : Rs β := match r with
  | .ok a m => k a m
  | .exc c xs m => .exc c xs m
  | .bad => .bad
/-- nothing may be raised -/
def Rs.nox {α : Type} (r : Rs α) : Rs α := match r with
  | .ok a m => .ok a m
  | _ => .bad
def Rs.st (e : Sl) (r : Rs α) (k : α → Sto → RS) : RS := match r with
  | .ok a m => k a m
  | .exc c xs m => .exc c xs e m
  | .bad => .bad
def RS.seq (r : RS) (k : Sl → Sto → RS) : RS := match r with
  | .nx e m => k e m
  | r => r
@[simp] theorem bind_ok {α β : Type} (a : α) (m : Sto) (k : α → Sto → Rs β) : (Rs.ok a m).bind k = k a m := Eq.trans rfl rfl
@[simp] theorem bind_exc {α β : Type} (c : Nat) (xs : List T) (m : Sto) (k : α → Sto → Rs β) : (Rs.exc c xs m : Rs α).bind k = .exc c xs m := rfl
@[simp] theorem bind_bad {α β : Type} (k : α → Sto → Rs β) : (Rs.bad : Rs α).bind k = .bad := rfl
@[simp] theorem nox_ok {α : Type} (a : α) (m : Sto) : (Rs.ok a m).nox = .ok a m := rfl
@[simp] theorem st_ok {α : Type} (e : Sl) (a : α) (m : Sto) (k : α → Sto → RS) : (Rs.ok a m).st e k = k a m := Eq.trans rfl rfl
@[simp] theorem st_exc {α : Type} (e : Sl) (c : Nat) (xs : List T) (m : Sto) (k : α → Sto → RS) : (Rs.exc c xs m : Rs α).st e k = .exc c xs e m := rfl
@[simp] theorem st_bad {α : Type} (e : Sl) (k : α → Sto → RS) : (Rs.bad : Rs α).st e k = .bad := rfl
@[simp] theorem seq_nx (e : Sl) (m : Sto) (k : Sl → Sto → RS) : (RS.nx e m).seq k = k e m := Eq.trans rfl rfl
@[simp] theorem seq_rt (t : T) (m : Sto) (k : Sl → Sto → RS) : (RS.rt t m).seq k = .rt t m := rfl
@[simp] theorem seq_bk (e : Sl) (m : Sto) (k : Sl → Sto → RS) : (RS.bk e m).seq k = .bk e m := rfl
@[simp] theorem seq_ct (e : Sl) (m : Sto) (k : Sl → Sto → RS) : (RS.ct e m).seq k = .ct e m := rfl
@[simp] theorem seq_exc (c : Nat) (xs : List T) (e : Sl) (m : Sto) (k : Sl → Sto → RS) : (RS.exc c xs e m).seq k = .exc c xs e m := rfl
@[simp] theorem seq_bad (k : Sl → Sto → RS) : (RS.bad).seq k = .bad := rfl
/-! ### data, its equality, its order -/
mutual
def pd : T → Option PyData
  | .non => some .none
  | .bl b => some (.bool b)
  | .int i => some (.int i)
  | .str x => some (.str x)
  | .lst xs => (pds xs).map .list
  | .tup xs => (pds xs).map .tuple
  | _ => none
def pds : List T → Option (List PyData)
  | [] => some []
  | x :: xs => match pd x, pds xs with
    | some d, some ds => some (d :: ds)
    | _, _ => none
end
/-- == of two things, where it can be told -/
def eqT (x y : T) : Option Bool := match pd x, pd y with
  | some d, some e => if SeqAt.shaped d && SeqAt.shaped e then some (PyData.eqv d e) else none
  | _, _ => none
/-- the items of a list, frozen or at a handle -/
def lstOf (m : Sto) : T → Option (List T)
  | .lst xs => some xs
  | .hd n => match m[n]? with
    | some (.lst xs) => some xs
    | _ => none
  | _ => none
/-- a list at a handle as one that stands still -/
def rdL (m : Sto) (t : T) : T := match t with
  | .hd n => match m[n]? with
    | some (.lst xs) => .lst xs
    | _ => t
  | _ => t
def addT (x y : T) (m : Sto) : Rs T := match x, y with
  | .int i, .int j => .ok (.int (i + j)) m
  | .str a, .str b => if a.length + b.length ≤ 16777216 then .ok (.str (a ++ b)) m else .bad
  | .tup xs, .tup ys => if xs.length + ys.length ≤ 16777216 then .ok (.tup (xs ++ ys)) m else .bad
  | x, y => match lstOf m x, lstOf m y with
    | some xs, some ys => if xs.length + ys.length ≤ 16777216 then .ok (.lst (xs ++ ys)) m else .bad
    | _, _ => .bad
end BV
namespace BV
open PySem PySem.Spec
def sm (i : Int) : Prop := i.natAbs < 2 ^ 1000
instance (i : Int) : Decidable (sm i) := inferInstanceAs (Decidable (i.natAbs < 2 ^ 1000))
def mulOk (i j : Int) : Prop := (-(2 ^ 64) < i ∧ i < 2 ^ 64) ∨ (-(2 ^ 64) < j ∧ j < 2 ^ 64) ∨ (sm i ∧ sm j)
instance (i j : Int) : Decidable (mulOk i j) := inferInstanceAs (Decidable ((-(2 ^ 64) < i ∧ i < 2 ^ 64) ∨ (-(2 ^ 64) < j ∧ j < 2 ^ 64) ∨ (sm i ∧ sm j)))
def divOk (j : Int) : Prop := 0 < j ∧ sm j
instance (j : Int) : Decidable (divOk j) := inferInstanceAs (Decidable (0 < j ∧ sm j))
def powOk (i j : Int) : Prop := 0 ≤ j ∧ j ≤ 1000000 ∧ i.natAbs < 2 ^ 64
instance (i j : Int) : Decidable (powOk i j) := inferInstanceAs (Decidable (0 ≤ j ∧ j ≤ 1000000 ∧ i.natAbs < 2 ^ 64))
/-- a text times an int -/
def repS (a : Str) (k : Nat) : Str := ⟨(List.replicate k a.cps).foldl (· ++ ·) #[]⟩
/-- a list times an int -/
def repT (x : T) (k : Int) (m : Sto) : Rs T := match lstOf m x with
  | some xs => if 0 ≤ k ∧ k ≤ 1000 ∧ xs.length ≤ 1000 then .ok (.lst (List.replicate k.toNat xs).flatten) m else .bad
  | none => .bad
def binT (o : Operator) (x y : T) (m : Sto) : Rs T := match o with
  | .Add => addT x y m
  | .Sub => match x, y with
    | .int i, .int j => .ok (.int (i - j)) m
    | _, _ => .bad
  | .Mult => match x, y with
    | .int i, .int j => if mulOk i j then .ok (.int (i * j)) m else .bad
    | .str a, .int k => if 2 ≤ k ∧ k ≤ 1000 ∧ 1 ≤ a.length ∧ a.length ≤ 1000 then .ok (.str (repS a k.toNat)) m else .bad
    | x, .int k => repT x k m
    | _, _ => .bad
  | .FloorDiv => match x, y with
    | .int i, .int j => if divOk j then .ok (.int (i / j)) m else .bad
    | _, _ => .bad
  | .Mod => match x, y with
    | .int i, .int j => if 0 < j then .ok (.int (i % j)) m else .bad
    | _, _ => .bad
  | .Pow => match x, y with
    | .int i, .int j => if powOk i j then .ok (.int (i ^ j.toNat)) m else .bad
    | _, _ => .bad
  | .RShift => match x, y with
    | .int i, .int j => if 0 ≤ j then .ok (.int (i / 2 ^ j.toNat)) m else .bad
    | _, _ => .bad
  | .BitAnd => match x, y with
    | .int i, .int j => .ok (.int (Builtin.bitAnd i j)) m
    | _, _ => .bad
  | _ => .bad
/-- == where it can be told; texts, intsOf at once -/
def eqC (x y : T) : Option Bool := match x, y with
  | .int i, .int j => some (decide (i = j))
  | .str a, .str b => some (decide (a = b))
  | .bl a, .bl b => some (decide (a = b))
  | x, y => eqT x y
def intsOf : List T → Option (List Int)
  | [] => some []
  | .int i :: r => (intsOf r).map (i :: ·)
  | _ => none
/-- is, for None and truths -/
def isT (x y : T) : Option Bool := match y with
  | .non => match x with
    | .non => some true
    | .hd _ => some false | .int _ => some false | .bl _ => some false | .str _ => some false | .lst _ => some false | .tup _ => some false | .obj _ _ => some false
    | _ => none
  | .bl b => match x with
    | .bl c => some (decide (c = b))
    | _ => none
  | _ => none
/-- things that stand apart by themselves: None, truths, intsOf, texts -/
def flatT : T → Bool
  | .non => true | .bl _ => true | .int _ => true | .str _ => true
  | _ => false
def eqF (y x : T) : Bool := match y, x with
  | .int i, .int j => decide (i = j)
  | .str a, .str b => decide (a = b)
  | .bl a, .bl b => decide (a = b)
  | .non, .non => true
  | .bl a, .int j => decide ((if a then 1 else 0) = j)
  | .int i, .bl b => decide (i = (if b then 1 else 0))
  | _, _ => false
def inF (x : T) (xs : List T) : Option Bool := if flatT x && xs.all flatT then some (xs.any fun y => eqF y x) else none
/-- in a list, of data of any depth -/
def inD (x y : T) (m : Sto) : Option Bool := match pd x, pd (rdL m y) with
  | some d, some (.list ds) => if SeqAt.shaped d && SeqAt.shaped (.list ds) then some (ds.any fun z => PyData.eqv z d) else none
  | _, _ => none
/-- the items of a list or a tuple -/
def seqOf (m : Sto) : T → Option (List T)
  | .tup xs => some xs
  | t => lstOf m t
/-! dicts: keys are ints and texts -/
def keyT : T → Option L2.Key
  | .int i => some (.inl i)
  | .str x => some (.inr x)
  | _ => none
def dgetT (kvs : List (L2.Key × T)) (k : L2.Key) : Option T := (kvs.find? fun kv => decide (kv.1 = k)).map (·.2)
def dputT (kvs : List (L2.Key × T)) (k : L2.Key) (v : T) : List (L2.Key × T) :=
  if kvs.any fun kv => decide (kv.1 = k) then kvs.map fun kv => if kv.1 = k then (kv.1, v) else kv else kvs ++ [(k, v)]
def ddropT (kvs : List (L2.Key × T)) (k : L2.Key) : List (L2.Key × T) := kvs.filter fun kv => decide (kv.1 ≠ k)
def dmrgT (kvs more : List (L2.Key × T)) : List (L2.Key × T) := more.foldl (fun acc kv => dputT acc kv.1 kv.2) kvs
/-- keys and values by turns -/
def kvOf : List T → Option (List (L2.Key × T))
  | [] => some []
  | x :: y :: r => match keyT x, kvOf r with
    | some k, some l => some ((k, y) :: l)
    | _, _ => none
  | _ => none
/-- the dict laid at n, told what is in it -/
def dnewT (n : Nat) (ts : List T) (m : Sto) : Rs T := match m[n]?, kvOf ts with
  | some (.dK []), some kvs => if kvs.length ≤ 15 then .ok (.hd n) (m.set n (.dK (dmrgT [] kvs))) else .bad
  | _, _ => .bad
/-- the dict at a handle -/
def dicOf (m : Sto) : T → Option (List (L2.Key × T))
  | .hd n => match m[n]? with
    | some (.dK kvs) => some kvs
    | _ => none
  | _ => none
/-- a text of one sign in a text -/
def inS (x y : Str) : Option Bool := match x.cps.toList with
  | [c] => some (decide (c ∈ y.cps.toList))
  | _ => none
def inT (x y : T) (m : Sto) : Option Bool := match y with
  | .str b => match x with
    | .str a => inS a b
    | _ => none
  | y => match seqOf m y with
    | some ys => match inF x ys with
      | some b => some b
      | none => inD x y m
    | none => match dicOf m y, keyT x with
      | some kvs, some k => some (dgetT kvs k).isSome
      | _, _ => none
def ltT (x y : T) : Option Bool := match x, y with
  | .int i, .int j => some (decide (i < j))
  | .str a, .str b => some (decide (a.cps.toList < b.cps.toList))
  | .tup xs, .tup ys => match intsOf xs, intsOf ys with
    | some ns, some ms => some (HT.lexLt ns ms)
    | _, _ => none
  | _, _ => none
/-- from the first pair that differs on -/
def leV (ns ms : List Int) : Bool := Ob.lexAt (fun j => decide (ns.getD j 0 = ms.getD j 0)) (fun j => decide (ns.getD j 0 ≤ ms.getD j 0)) (decide (ns.length ≤ ms.length)) 0 (min ns.length ms.length)
def leT (x y : T) : Option Bool := match x, y with
  | .int i, .int j => some (decide (i ≤ j))
  | .tup xs, .tup ys => match intsOf xs, intsOf ys with
    | some ns, some ms => some (leV ns ms)
    | _, _ => none
  | _, _ => none
def cmpB (o : CmpOp) (x y : T) (m : Sto) : Option Bool := match o with
  | .Eq => eqC (rdL m x) (rdL m y)
  | .NotEq => (eqC (rdL m x) (rdL m y)).map (!·)
  | .Lt => ltT x y
  | .Gt => match x, y with
    | .int i, .int j => some (decide (j < i))
    | _, _ => none
  | .LtE => leT x y
  | .GtE => match x, y with
    | .int i, .int j => some (decide (j ≤ i))
    | _, _ => none
  | .Is => isT x y
  | .IsNot => (isT x y).map (!·)
  | .In => inT x y m
  | .NotIn => (inT x y m).map (!·)
def cmpT (o : CmpOp) (x y : T) (m : Sto) : Rs T := match cmpB o x y m with
  | some b => .ok (.bl b) m
  | none => .bad
def didxT (x y : T) (m : Sto) : Rs T := match dicOf m x, keyT y with
  | some kvs, some k => match dgetT kvs k with
    | some t => .ok t m
    | none => .bad
  | _, _ => .bad
def idxT (x y : T) (m : Sto) : Rs T := match y with
  | .int i => match x with
    | .str a => match L2.atI a.cps.toList i with
      | some c => .ok (.str ⟨#[c]⟩) m
      | none => .bad
    | .scr xs => match L2.atI xs i with
      | some c => .ok (.int c) m
      | none => .bad
    | x => match seqOf m x with
      | some xs => match L2.atI xs i with
        | some t => .ok t m
        | none => .bad
      | none => didxT x (.int i) m
  | y => didxT x y m
def cutT {α : Type} (xs : List α) (lo hi : Option Int) : List α := (xs.drop (HT.sIx xs.length 0 lo)).take (HT.sIx xs.length xs.length hi - HT.sIx xs.length 0 lo)
def slcT (x : T) (lo hi : Option Int) (m : Sto) : Rs T := match x with
  | .str a => .ok (.str ⟨(cutT a.cps.toList lo hi).toArray⟩) m
  | .scr xs => .ok (.lst ((cutT xs lo hi).map .int)) m
  | .tup xs => .ok (.tup (cutT xs lo hi)) m
  | x => match lstOf m x with
    | some xs => .ok (.lst (cutT xs lo hi)) m
    | none => .bad
inductive Ty where | int | bool | str | list | tuple | dict
def tyIs (t : T) (m : Sto) (c : Ty) : Option Bool := match t with
  | .non => some false
  | .bl _ => some (match c with | .int => true | .bool => true | _ => false)
  | .int _ => some (match c with | .int => true | _ => false)
  | .str _ => some (match c with | .str => true | _ => false)
  | .lst _ => some (match c with | .list => true | _ => false)
  | .scr _ => some (match c with | .list => true | _ => false)
  | .tup _ => some (match c with | .tuple => true | _ => false)
  | .hd n => match m[n]? with
    | some (.lst _) => some (match c with | .list => true | _ => false)
    | some (.dK _) => some (match c with | .dict => true | _ => false)
    | _ => none
  | _ => none
def tyAny (t : T) (m : Sto) : List Ty → Option Bool
  | [] => some false
  | c :: cs => match tyIs t m c, tyAny t m cs with
    | some a, some b => some (a || b)
    | _, _ => none
inductive BI where | len | abs | max | min | int | list | tuple | all | any | divmod | sorted | str
def strsOf : List T → Option (List Str)
  | [] => some []
  | .str a :: r => (strsOf r).map (a :: ·)
  | _ => none
def pairsOf : List T → Option (List (Int × Int))
  | [] => some []
  | .tup [.int i, .int j] :: r => (pairsOf r).map ((i, j) :: ·)
  | _ => none
def okS (xs : List Str) : Bool := xs.all fun x => decide (x.length ≤ 16777216)
def srtI (ns : List Int) : List Int := ns.mergeSort fun a b => decide (a ≤ b)
def leStr (a b : Str) : Bool := !decide (b.cps.toList < a.cps.toList)
def srtS (xs : List Str) : List Str := xs.mergeSort leStr
def leP (p q : Int × Int) : Bool := !SrtO.lexB q p
def srtP (ps : List (Int × Int)) : List (Int × Int) := ps.mergeSort leP
def mkP (p : Int × Int) : T := .tup [.int p.1, .int p.2]
/-- sorted: ints, texts, pairs of ints -/
def srtT (xs : List T) : Option (List T) := match intsOf xs with
  | some ns => some ((srtI ns).map .int)
  | none => match strsOf xs with
    | some ys => if ys.length < 64 then some ((srtS ys).map .str) else none
    | none => (pairsOf xs).map fun ps => (srtP ps).map mkP
def bls : List T → Option (List Bool)
  | [] => some []
  | .bl i :: r => (bls r).map (i :: ·)
  | _ => none
/-- the greatest of a list, the first of alike ones: ints, tuples of ints -/
def dtLt (a y : T) : Bool := match pd a, pd y with
  | some d, some e => PySem.W.dataLt d e
  | _, _ => false
def mxF (t : T) (ts : List T) : T := ts.foldl (fun a y => if dtLt a y then y else a) t
def isI : T → Bool
  | .int _ => true
  | _ => false
def isIT : T → Bool
  | .tup xs => (intsOf xs).isSome
  | _ => false
def mx1 : List T → Option T
  | [] => none
  | t :: ts => if (t :: ts).all isI || (t :: ts).all isIT then some (mxF t ts) else none
def mxdT (t : T) (m : Sto) : Rs T := match lstOf m t with
  | some [] => .ok .non m
  | some (x :: xs) => match mx1 (x :: xs) with
    | some y => .ok y m
    | none => .bad
  | none => .bad
/-- sorted(set(xs)), ints -/
def insU (x : Int) : List Int → List Int
  | [] => [x]
  | y :: r => if x < y then x :: y :: r else if x = y then y :: r else y :: insU x r
def srtU (ns : List Int) : List Int := ns.foldr insU []
def ssetT (t : T) (m : Sto) : Rs T := match lstOf m t with
  | some xs => match intsOf xs with
    | some ns => if ns.length < 64 then .ok (.lst ((srtU ns).map .int)) m else .bad
    | none => .bad
  | none => .bad
def biT (b : BI) (ts : List T) (m : Sto) : Rs T := match b, ts with
  | .len, [t] => match t with
    | .str a => .ok (.int a.length) m
    | .scr xs => .ok (.int xs.length) m
    | t => match seqOf m t with
      | some xs => .ok (.int xs.length) m
      | none => .bad
  | .abs, [.int i] => .ok (.int (if i < 0 then -i else i)) m
  | .max, [.int i, .int j] => .ok (.int (if j > i then j else i)) m
  | .max, [t] => match lstOf m t with
    | some xs => match mx1 xs with
      | some y => .ok y m
      | none => .bad
    | none => .bad
  | .min, [.int i, .int j] => .ok (.int (if j < i then j else i)) m
  | .int, [.int i] => .ok (.int i) m
  | .int, [.bl k] => .ok (.int (if k then 1 else 0)) m
  | .int, [.str a] => if a.length ≤ 640 then (match PySem.intText? a with
    | some n => .ok (.int n) m
    | none => .bad) else .bad
  | .list, [t] => match seqOf m t with
    | some xs => .ok (.lst xs) m
    | none => .bad
  | .tuple, [t] => match seqOf m t with
    | some xs => .ok (.tup xs) m
    | none => .bad
  | .all, [t] => match lstOf m t with
    | some xs => match bls xs with
      | some bs => .ok (.bl (bs.all id)) m
      | none => .bad
    | none => .bad
  | .any, [t] => match lstOf m t with
    | some xs => match bls xs with
      | some bs => .ok (.bl (bs.any id)) m
      | none => .bad
    | none => .bad
  | .sorted, [t] => match lstOf m t with
    | some xs => match srtT xs with
      | some ys => .ok (.lst ys) m
      | none => .bad
    | none => .bad
  | .str, [.str a] => .ok (.str a) m
  | .str, [.non] => .ok (.str "None") m
  | .str, [.int i] => if i.natAbs.log2 < 1920 ∧ (Str.ofString (toString i)).length ≤ 16777216 then .ok (.str (toString i)) m else .bad
  | .divmod, [.int i, .int j] => if divOk j ∧ sm i then .ok (.tup [.int (i / j), .int (i % j)]) m else .bad
  | _, _ => .bad
/-- methods of texts -/
inductive SM where | index | find | starts | split | part | join
def smT (k : SM) (a : Str) (ts : List T) (m : Sto) : Rs T := match k, ts with
  | .index, [.str b] => match Builtin.Str.occurrences a b 0 a.length 1 with
    | i :: _ => .ok (.int (i : Nat)) m
    | [] => .bad
  | .find, [.str b] => .ok (.int (Txt.find a b)) m
  | .starts, [.str b] => .ok (.bl (Txt.startswith a b)) m
  | .split, [.str b] => if (b.length == 0) = false ∧ a.length ≤ 16000000 ∧ okS (Txt.split a b) = true ∧ (Txt.split a b).length ≤ 16777216 then .ok (.lst ((Txt.split a b).map .str)) m else .bad
  | .part, [.str b] => if (b.length == 0) = false ∧ a.length ≤ 16000000 ∧ okS [(Txt.partition a b).1, (Txt.partition a b).2.1, (Txt.partition a b).2.2] = true then .ok (.tup [.str (Txt.partition a b).1, .str (Txt.partition a b).2.1, .str (Txt.partition a b).2.2]) m else .bad
  | .join, [t] => match seqOf m t with
    | some xs => match strsOf xs with
      | some ys => if (ys.map (·.length)).sum + ys.length * a.length ≤ 16777216 ∧ (Txt.join a ys).length ≤ 16777216 then .ok (.str (Txt.join a ys)) m else .bad
      | none => .bad
    | none => .bad
  | _, _ => .bad
/-- range(i, j, c) -/
def rngN (i j c : Int) : Int := Builtin.Range.rangeSize i j c
def rngC (i j c : Int) : List T := (List.range (rngN i j c).toNat).map fun (k : Nat) => T.int (i + k * c)
def rngOk (i j c : Int) : Bool := decide (c ≠ 0) && decide (c.natAbs < 1073741824) && Builtin.Range.small i j c && decide (0 ≤ rngN i j c) && decide (rngN i j c ≤ 16777216)
/-- xs[y] = x, d[y] = x -/
def subS (t y x : T) (e : Sl) (m : Sto) : RS := match t with
  | .hd n => match m[n]? with
    | some (.lst xs) => match y with
      | .int z => match L2.ixN xs.length z with
        | some j => .nx e (m.set n (.lst (xs.set j x)))
        | none => .bad
      | _ => .bad
    | some (.dK kvs) => match keyT y with
      | some k => if kvs.length < 16777216 then .nx e (m.set n (.dK (dputT kvs k x))) else .bad
      | none => .bad
    | _ => .bad
  | _ => .bad
/-- a list just made is laid at a handle -/
def toM (r : Rs T) : Rs T := match r with
  | .ok (.lst xs) m => .ok (.hd m.length) (m ++ [.lst xs])
  | .exc c xs m => .exc c xs m
  | _ => .bad
/-- the methods of lists that hand back None -/
inductive LM where | app | ext | clr
def lmT (k : LM) (xs : List T) (ts : List T) (m : Sto) : Option (List T) := match k, ts with
  | .app, [t] => if xs.length < 16777216 then some (xs ++ [t]) else none
  | .ext, [t] => match lstOf m t with
    | some ys => if xs.length + ys.length ≤ 16777216 then some (xs ++ ys) else none
    | none => none
  | .clr, [] => some []
  | _, _ => none
/-! methods of built-in types that tell a value -/
inductive BM where | lpop0 | lpop | lins | lrev | lidx | lcnt | dget1 | dget2 | dpop1 | dpop2 | upper | repl
/-- what must stand ahead of the dot -/
def bmTy (k : BM) (x : T) (m : Sto) : Bool := match k with
  | .upper => (match x with | .str _ => true | _ => false)
  | .repl => (match x with | .str _ => true | _ => false)
  | .dget1 => (dicOf m x).isSome
  | .dget2 => (dicOf m x).isSome
  | .dpop1 => (dicOf m x).isSome
  | .dpop2 => (dicOf m x).isSome
  | _ => (lstOf m x).isSome
/-- the first place of a thing in a list of flat things -/
def idxF (x : T) : List T → Nat → Option Nat
  | [], _ => none
  | y :: r, k => if eqF y x then some k else idxF x r (k + 1)
def bmT (k : BM) (x : T) (ts : List T) (m : Sto) : Rs T := match k, ts with
  | .lpop0, [] => match x with
    | .hd n => match m[n]? with
      | some (.lst xs) => match xs[xs.length - 1]? with
        | some y => .ok y (m.set n (.lst xs.dropLast))
        | none => .bad
      | _ => .bad
    | _ => .bad
  | .lpop, [.int i] => match x with
    | .hd n => match m[n]? with
      | some (.lst xs) => if -(2 ^ 63) ≤ i ∧ i < 2 ^ 63 then (match L2.ixN xs.length i with
        | some j => match xs[j]? with
          | some y => .ok y (m.set n (.lst (xs.eraseIdx j)))
          | none => .bad
        | none => .bad) else .bad
      | _ => .bad
    | _ => .bad
  | .lins, [.int i, y] => match x with
    | .hd n => match m[n]? with
      | some (.lst xs) => if xs.length < 16777216 ∧ 0 ≤ i ∧ i < 2 ^ 63 then .ok .non (m.set n (.lst (xs.take i.toNat ++ [y] ++ xs.drop i.toNat))) else .bad
      | _ => .bad
    | _ => .bad
  | .lidx, [y] => match lstOf m x with
    | some xs => if flatT y && xs.all flatT then (match idxF y xs 0 with
      | some j => .ok (.int (j : Nat)) m
      | none => .bad) else .bad
    | none => .bad
  | .lcnt, [y] => match lstOf m x with
    | some xs => if flatT y && xs.all flatT then .ok (.int (xs.countP (eqF · y) : Nat)) m else .bad
    | none => .bad
  | .lrev, [] => match x with
    | .hd n => match m[n]? with
      | some (.lst xs) => .ok .non (m.set n (.lst xs.reverse))
      | _ => .bad
    | _ => .bad
  | .dget1, [y] => match dicOf m x, keyT y with
    | some kvs, some k => .ok ((dgetT kvs k).getD .non) m
    | _, _ => .bad
  | .dget2, [y, d] => match dicOf m x, keyT y with
    | some kvs, some k => .ok ((dgetT kvs k).getD d) m
    | _, _ => .bad
  | .dpop1, [y] => match x with
    | .hd n => match m[n]? with
      | some (.dK kvs) => match keyT y with
        | some k => match dgetT kvs k with
          | some t => .ok t (m.set n (.dK (ddropT kvs k)))
          | none => .bad
        | none => .bad
      | _ => .bad
    | _ => .bad
  | .dpop2, [y, d] => match x with
    | .hd n => match m[n]? with
      | some (.dK kvs) => match keyT y with
        | some k => match dgetT kvs k with
          | some t => .ok t (m.set n (.dK (ddropT kvs k)))
          | none => .ok d m
        | none => .bad
      | _ => .bad
    | _ => .bad
  | .upper, [] => match x with
    | .str a => if a.length ≤ 5592405 ∧ (Txt.upper a).length ≤ 16777216 then .ok (.str (Txt.upper a)) m else .bad
    | _ => .bad
  | _, _ => .bad
/-! xs[::k] -/
def pickL {α : Type} (k : Int) (xs : List α) : List α := (sliceRange 0 xs.length k).filterMap (xs[·]?)
def stpT (x y : T) (m : Sto) : Rs T := match y with
  | .int k => match lstOf m x with
    | some xs => if 1 ≤ k then .ok (.lst (pickL k xs)) m else .bad
    | none => .bad
  | _ => .bad
/-! ### the intermediate language -/
inductive Tg where | one (i : Nat) | many (l : List Nat)
mutual
inductive ME where
  | var (i : Nat)
  | cst (t : T)
  | lst (l : List ME)
  | mut (a : ME)
  | tup (l : List ME)
  | bin (o : Operator) (a b : ME)
  | neg (a : ME)
  | cmp (o : CmpOp) (a b : ME)
  | chn (o p : CmpOp) (a b c : ME)
  | chn3 (o p q : CmpOp) (a b c d : ME)
  | and (a b : ME)
  | or (a b : ME)
  | not (a : ME)
  | ite (c a b : ME)
  | idx (a b : ME)
  | slc (a : ME) (lo hi : Option ME)
  | call (f : Fn) (l : List ME)
  | mk (c : Nat) (f : Fn) (l : List ME)
  | mkF (c : Nat) (f : Fn) (l : List ME)
  | meth (fs : List (Nat × Fn)) (o : ME) (l : List ME)
  | vcall (fs : List (Nat × Nat)) (hs : List Str) (o : ME) (l : List ME)
  | fld (fs : List (Nat × Nat)) (o : ME)
  | bi (b : BI) (l : List ME)
  | sm (k : SM) (o : ME) (l : List ME)
  | isi (a : ME) (c : Ty)
  | isn (a : ME) (cs : List Ty)
  | comp (g : Tg) (it : MI) (cs : List ME) (e : ME)
  | xis (i : Nat) (css : List (List (Nat × Bool)))
  | xfl (i : Nat) (cs : List Nat)
  | dnew (l : List ME)
  | bm (ks : List BM) (o : ME) (l : List ME)
  | rev (a : ME)
  | stp (a k : ME)
  | mxd (a : ME)
  | sset (a : ME)
  | lam (h : Nat) (x q : Str)
  | xcall (f : Fn) (i : Nat)
inductive MI where
  | seq (e : ME)
  | rng1 (a : ME)
  | rng2 (a b : ME)
  | rng3 (a b c : ME)
  | enm (a : ME)
  | zip (a b : ME)
end
inductive MS where
  | set (i : Nat) (e : ME)
  | aug (i : Nat) (e : ME)
  | bnd (l : List Nat) (e : ME)
  | sub (o k e : ME)
  | lm (k : LM) (o : ME) (l : List ME)
  | fset (fs : List (Nat × Nat)) (o : ME) (e : ME)
  | fset2 (fs : List (Nat × Nat)) (o : ME) (gs : List (Nat × Nat)) (q : ME) (e : ME)
  | faug (fs : List (Nat × Nat)) (o : ME) (e : ME)
  | expr (e : ME)
  | ret (e : ME)
  | retN
  | ite (c : ME) (a b : List MS)
  | for (g : Tg) (it : MI) (b : List MS)
  | whl (n : Nat) (c : ME) (b : List MS)
  | brk | cont | pass
  | rse (c : Nat) (l : List ME)
  | try (b : List MS) (cs : List (Nat × Bool)) (i : Option Nat) (s : List MS)
  | never
def bindN : List Nat → List T → Sl → Option Sl
  | [], [], e => some e
  | i :: is, t :: ts, e => bindN is ts (e.set i (some t))
  | _, _, _ => none
def bindT : Tg → T → Sl → Option Sl
  | .one i, t, e => some (e.set i (some t))
  | .many is, t, e => match t with
    | .tup ts => bindN is ts e
    | .lst ts => bindN is ts e
    | _ => none
/-- a comprehension's turns -/
def compL (f : T → Sto → Rs (Option T)) : List T → List T → Sto → Rs T
  | [], acc, m => .ok (.lst acc) m
  | x :: xs, acc, m => (f x m).bind fun o m' => match o with
    | none => compL f xs acc m'
    | some t => compL f xs (acc ++ [t]) m'
/-- a loop's turns -/
def forL (f : T → Sl → Sto → RS) : List T → Sl → Sto → RS
  | [], e, m => .nx e m
  | x :: xs, e, m => match f x e m with
    | .nx e' m' => forL f xs e' m'
    | .ct e' m' => forL f xs e' m'
    | .bk e' m' => .nx e' m'
    | r => r
def whlL (c : Sl → Sto → Rs T) (f : Sl → Sto → RS) : Nat → Sl → Sto → RS
  | 0, _, _ => .bad
  | n + 1, e, m => (c e m).st e fun t m1 => match t with
    | .bl true => match f e m1 with
      | .nx e' m' => whlL c f n e' m'
      | .ct e' m' => whlL c f n e' m'
      | .bk e' m' => .nx e' m'
      | r => r
    | .bl false => .nx e m1
    | _ => .bad
/-- of a caught exception's class: is it one of these? -/
def xisAny (c : Nat) : List (List (Nat × Bool)) → Option Bool
  | [] => some false
  | cs :: r => match cs.lookup c, xisAny c r with
    | some a, some b => some (a || b)
    | _, _ => none
/-- a list at a handle, or its enumeration -/
inductive Wh where
  | l (n : Nat)
  | e (n : Nat)
  | z (n : Nat) (ys : List T)
instance : Coe Nat Wh := ⟨Wh.l⟩
/-- what a loop walks -/
structure Wk where
  xs : List T
  hn : Option Wh
def rngL (lo hi : Int) : List T := (List.range (hi - lo).toNat).map fun (k : Nat) => T.int (lo + k)
def enmL : Nat → List T → List T
  | _, [] => []
  | k, x :: xs => .tup [.int k, x] :: enmL (k + 1) xs
def zipL : List T → List T → List T
  | x :: xs, y :: ys => .tup [x, y] :: zipL xs ys
  | _, _ => []
def walkT (t : T) (m : Sto) : Option Wk := match t with
  | .lst xs => some ⟨xs, none⟩
  | .tup xs => some ⟨xs, none⟩
  | .scr xs => some ⟨xs.map .int, none⟩
  | .str a => some ⟨a.cps.toList.map fun c => .str ⟨#[c]⟩, none⟩
  | .hd n => match m[n]? with
    | some (.lst xs) => some ⟨xs, some (.l n)⟩
    | _ => none
  | _ => none
def bnd62 (i : Int) : Prop := -(2 ^ 62) ≤ i ∧ i < 2 ^ 62
instance (i : Int) : Decidable (bnd62 i) := inferInstanceAs (Decidable (-(2 ^ 62) ≤ i ∧ i < 2 ^ 62))
/-- the list at a handle stands as it did -/
def stands (w : Wk) (m : Sto) : Prop := match w.hn with
  | none => True
  | some (.l n) => m[n]? = some (.lst w.xs)
  | some (.e n) => ∃ ys, m[n]? = some (.lst ys) ∧ w.xs = enmL 0 ys
  | some (.z n ys) => ∃ xs, m[n]? = some (.lst xs) ∧ w.xs = zipL xs ys
open Classical in
noncomputable def guardS (w : Wk) (r : RS) : RS := match r with
  | .nx e m => if stands w m then .nx e m else .bad
  | .ct e m => if stands w m then .ct e m else .bad
  | r => r
open Classical in
noncomputable def guardC {α : Type} (w : Wk) (r : Rs α) : Rs α := match r with
  | .ok a m => if stands w m then .ok a m else .bad
  | r => r
@[simp] theorem guardS_none (xs : List T) (r : RS) : guardS ⟨xs, none⟩ r = r := by cases r <;> simp [guardS, stands]
@[simp] theorem guardC_none {α : Type} (xs : List T) (r : Rs α) : guardC ⟨xs, none⟩ r = r := by cases r <;> simp [guardC, stands]
/-! ### leaving a def: its own handles go -/
mutual
def bel (b : Nat) : T → Bool
  | .lst xs => bels b xs
  | .tup xs => bels b xs
  | .obj _ xs => bels b xs
  | .hd n => decide (n < b)
  | _ => true
def bels (b : Nat) : List T → Bool
  | [] => true
  | x :: xs => bel b x && bels b xs
end
def Cell.bel (b : Nat) : Cell → Bool
  | .lst xs => bels b xs
  | .ins _ xs => bels b xs
  | .dK kvs => bels b (kvs.map (·.2))
  | .tab _ _ => true
def frzL (f : T → Option T) : List T → Option (List T)
  | [] => some []
  | x :: xs => match f x, frzL f xs with
    | some y, some ys => some (y :: ys)
    | _, _ => none
def frz (b : Nat) (m : Sto) : Nat → T → Option T
  | 0, t => if bel b t then some t else none
  | n + 1, t => if bel b t then some t else match t with
    | .hd k => match m[k]? with
      | some (.lst xs) => (frzL (frz b m n) xs).map .lst
      | some (.ins c xs) => (frzL (frz b m n) xs).map (.obj c)
      | _ => none
    | .tup xs => (frzL (frz b m n) xs).map .tup
    | .lst xs => (frzL (frz b m n) xs).map .lst
    | .obj c xs => (frzL (frz b m n) xs).map (.obj c)
    | _ => none
def okDr (m m' : Sto) : Prop := m.length ≤ m'.length ∧ ∀ k c, k < m.length → m'[k]? = some c → m[k]? = some c ∨ c.bel m.length = true
open Classical in
noncomputable def drp (m m' : Sto) (t : T) : Rs T := if okDr m m' then (match frz m.length m' 4 t with
  | some t' => .ok t' (m'.take m.length)
  | none => .ok t m') else .ok t m'
open Classical in
noncomputable def drpX (c : Nat) (xs : List T) (m m' : Sto) : Rs T := if okDr m m' ∧ bels m.length xs = true then .exc c xs (m'.take m.length) else .exc c xs m'
/-- a new instance -/
def mkT (c : Nat) (f : Fn) (ts : List T) (m : Sto) : Rs T := (f (.hd m.length :: ts) (m ++ [.ins c []])).bind fun t m' => match t with
  | .non => .ok (.hd m.length) m'
  | _ => .bad
noncomputable def mkFT (c : Nat) (f : Fn) (ts : List T) (m : Sto) : Rs T := match mkT c f ts m with
  | .ok t m' => drp m m' t
  | .exc k xs m' => drpX k xs m m'
  | .bad => .bad
def clsOf (m : Sto) : T → Option (Nat × List T)
  | .obj c xs => some (c, xs)
  | .hd n => match m[n]? with
    | some (.ins c xs) => some (c, xs)
    | _ => none
  | _ => none
def fldT (fs : List (Nat × Nat)) (t : T) (m : Sto) : Rs T := match clsOf m t with
  | some (c, xs) => match fs.lookup c with
    | some i => match xs[i]? with
      | some t => .ok t m
      | none => .bad
    | none => .bad
  | none => .bad
/-- what is called is told ahead of the arguments -/
def methF (fs : List (Nat × Fn)) (x : T) (m : Sto) : Option Fn := match clsOf m x with
  | some (c, _) => fs.lookup c
  | none => none
def fsetT (fs : List (Nat × Nat)) (t v : T) (m : Sto) : Option Sto := match t with
  | .hd n => match m[n]? with
    | some (.ins c xs) => match fs.lookup c with
      | some i => if i < xs.length then some (m.set n (.ins c (xs.set i v))) else if i = xs.length then some (m.set n (.ins c (xs ++ [v]))) else none
      | none => none
    | _ => none
  | _ => none
/-- what a function that stands in a field does -/
def fnNone : Fn := fun ts m => if ts.length = 1 then .ok .non m else .bad
def fnOf (hs : List Str) : T → Option Fn
  | .fn (some x) => if hs.contains x then some fnNone else none
  | .fn none => some fnNone
  | _ => none
def clsN (m : Sto) (t : T) : Option Nat := (clsOf m t).map (·.1)
/-- o.f += y, read -/
def faugK (fs : List (Nat × Nat)) (e : Sl) (t : T) (c : Option Nat) (x y : T) (m : Sto) : RS := match x, y with
  | .int i, .int j => if clsN m t = c then (match fsetT fs t (.int (i + j)) m with
    | some m4 => .nx e m4
    | none => .bad) else .bad
  | _, _ => .bad
mutual
noncomputable def den : ME → Sl → Sto → Rs T
  | .var i, e, m => match e[i]? with
    | some (some t) => .ok t m
    | _ => .bad
  | .cst t, _, m => .ok t m
  | .lst l, e, m => (denL l e m).bind fun ts m' => .ok (.lst ts) m'
  | .mut a, e, m => toM (den a e m)
  | .tup l, e, m => (denL l e m).bind fun ts m' => .ok (.tup ts) m'
  | .bin o a b, e, m => (den a e m).bind fun x m1 => (den b e m1).bind fun y m2 => binT o x y m2
  | .neg a, e, m => (den a e m).bind fun x m1 => match x with
    | .int i => .ok (.int (-i)) m1
    | _ => .bad
  | .cmp o a b, e, m => (den a e m).bind fun x m1 => (den b e m1).bind fun y m2 => cmpT o x y m2
  | .chn3 o p q a b c d, e, m => (den a e m).bind fun x m1 => (den b e m1).bind fun y m2 => (cmpT o x y m2).bind fun k m3 => match k with
    | .bl true => (den c e m3).bind fun z m4 => (cmpT p y z m4).bind fun k2 m5 => match k2 with
      | .bl true => (den d e m5).bind fun w m6 => cmpT q z w m6
      | .bl false => .ok (.bl false) m5
      | _ => .bad
    | .bl false => .ok (.bl false) m3
    | _ => .bad
  | .chn o p a b c, e, m => (den a e m).bind fun x m1 => (den b e m1).bind fun y m2 => (cmpT o x y m2).bind fun k m3 => match k with
    | .bl true => (den c e m3).bind fun z m4 => cmpT p y z m4
    | .bl false => .ok (.bl false) m3
    | _ => .bad
  | .and a b, e, m => (den a e m).bind fun x m1 => match x with
    | .bl true => den b e m1
    | .bl false => .ok (.bl false) m1
    | _ => .bad
  | .or a b, e, m => (den a e m).bind fun x m1 => match x with
    | .bl true => .ok (.bl true) m1
    | .bl false => den b e m1
    | _ => .bad
  | .not a, e, m => (den a e m).bind fun x m1 => match x with
    | .bl k => .ok (.bl (!k)) m1
    | _ => .bad
  | .ite c a b, e, m => (den c e m).bind fun x m1 => match x with
    | .bl true => den a e m1
    | .bl false => den b e m1
    | _ => .bad
  | .idx a b, e, m => (den a e m).bind fun x m1 => (den b e m1).bind fun y m2 => idxT x y m2
  | .slc a lo hi, e, m => (den a e m).bind fun x m1 => (denO lo e m1).bind fun l m2 => (denO hi e m2).bind fun h m3 => slcT x l h m3
  | .call f l, e, m => (denL l e m).bind fun ts m' => f ts m'
  | .mk c f l, e, m => (denL l e m).bind fun ts m' => mkT c f ts m'
  | .mkF c f l, e, m => (denL l e m).bind fun ts m' => mkFT c f ts m'
  | .meth fs o l, e, m => (den o e m).bind fun x m1 => match methF fs x m1 with
    | some F => (denL l e m1).bind fun ts m2 => F (x :: ts) m2
    | none => .bad
  | .vcall fs hs o l, e, m => (den o e m).bind fun x m1 => (fldT fs x m1).bind fun f m2 => match fnOf hs f with
    | some F => (denL l e m2).bind fun ts m3 => F ts m3
    | none => .bad
  | .fld fs o, e, m => (den o e m).bind fun x m1 => fldT fs x m1
  | .bi b l, e, m => (denL l e m).bind fun ts m' => biT b ts m'
  | .sm k o l, e, m => (den o e m).bind fun x m1 => match x with
    | .str a => (denL l e m1).bind fun ts m2 => smT k a ts m2
    | _ => .bad
  | .isi a c, e, m => (den a e m).bind fun x m1 => match tyIs x m1 c with
    | some b => .ok (.bl b) m1
    | none => .bad
  | .isn a cs, e, m => (den a e m).bind fun x m1 => match tyAny x m1 cs with
    | some b => .ok (.bl b) m1
    | none => .bad
  | .comp g it cs x, e, m => (denI it e m).bind fun w m1 => compL (fun t m2 => (guardC w (match bindT g t e with
      | none => .bad
      | some e' => (denC cs e' m2).bind fun k m3 => if k then (den x e' m3).bind fun v m4 => .ok (some v) m4 else .ok none m3)).nox) w.xs [] m1
  | .xis i css, e, m => match e[i]? with
    | some (some (.exn c _)) => match xisAny c css with
      | some b => .ok (.bl b) m
      | none => .bad
    | _ => .bad
  | .xfl i cs, e, m => match e[i]? with
    | some (some (.exn c (t :: _))) => if cs.contains c then .ok t m else .bad
    | _ => .bad
  | .dnew l, e, m => (denL l e (m ++ [.dK []])).bind fun ts m' => dnewT m.length ts m'
  | .bm ks o l, e, m => (den o e m).bind fun x m1 => match ks.find? fun k => bmTy k x m1 with
    | some k => (denL l e m1).bind fun ts m2 => bmT k x ts m2
    | none => .bad
  | .stp a k, e, m => (den a e m).bind fun x m1 => (den k e m1).bind fun y m2 => stpT x y m2
  | .mxd a, e, m => (den a e m).bind fun x m1 => mxdT x m1
  | .sset a, e, m => (den a e m).bind fun x m1 => ssetT x m1
  | .lam h x q, _, m => match m[h]? with
    | some (.tab x' q') => if x' = x ∧ q' = q then .ok (.fn none) m else .bad
    | _ => .bad
  | .xcall f i, e, m => match e[i]? with
    | some (some (.exn c xs)) => (f [.exn c xs] m).nox
    | _ => .bad
  | .rev a, e, m => (den a e m).bind fun x m1 => match lstOf m1 x with
    | some xs => .ok (.lst xs.reverse) m1
    | none => .bad
noncomputable def denL : List ME → Sl → Sto → Rs (List T)
  | [], _, m => .ok [] m
  | a :: l, e, m => (den a e m).bind fun x m1 => (denL l e m1).bind fun xs m2 => .ok (x :: xs) m2
noncomputable def denO : Option ME → Sl → Sto → Rs (Option Int)
  | none, _, m => .ok none m
  | some a, e, m => (den a e m).bind fun x m1 => match x with
    | .int i => .ok (some i) m1
    | _ => .bad
noncomputable def denC : List ME → Sl → Sto → Rs Bool
  | [], _, m => .ok true m
  | a :: l, e, m => (den a e m).bind fun x m1 => match x with
    | .bl true => denC l e m1
    | .bl false => .ok false m1
    | _ => .bad
noncomputable def denI : MI → Sl → Sto → Rs Wk
  | .seq a, e, m => (den a e m).bind fun x m1 => match walkT x m1 with
    | some w => .ok w m1
    | none => .bad
  | .rng1 a, e, m => (den a e m).bind fun x m1 => match x with
    | .int j => if bnd62 j ∧ j ≤ 16777216 then .ok ⟨rngL 0 j, none⟩ m1 else .bad
    | _ => .bad
  | .rng2 a b, e, m => (den a e m).bind fun x m1 => (den b e m1).bind fun y m2 => match x, y with
    | .int i, .int j => if bnd62 i ∧ bnd62 j ∧ j - i ≤ 16777216 then .ok ⟨rngL i j, none⟩ m2 else .bad
    | _, _ => .bad
  | .rng3 a b c, e, m => (den a e m).bind fun x m1 => (den b e m1).bind fun y m2 => (den c e m2).bind fun w m3 => match x, y, w with
    | .int i, .int j, .int c => if rngOk i j c = true then .ok ⟨rngC i j c, none⟩ m3 else .bad
    | _, _, _ => .bad
  | .enm a, e, m => (den a e m).bind fun x m1 => match x with
    | .lst xs => .ok ⟨enmL 0 xs, none⟩ m1
    | .hd n => match m1[n]? with
      | some (.lst xs) => .ok ⟨enmL 0 xs, some (.e n)⟩ m1
      | _ => .bad
    | _ => .bad
  | .zip a b, e, m => (den a e m).bind fun x m1 => (den b e m1).bind fun y m2 => match x, y with
    | .lst xs, .lst ys => .ok ⟨zipL xs ys, none⟩ m2
    | .hd n, .lst ys => match m2[n]? with
      | some (.lst xs) => .ok ⟨zipL xs ys, some (.z n ys)⟩ m2
      | _ => .bad
    | _, _ => .bad
end
def unbind (i : Option Nat) (e : Sl) : Sl := match i with
  | some i => e.set i none
  | none => e
def RS.unb (i : Option Nat) : RS → RS
  | .nx e m => .nx (unbind i e) m
  | .bk e m => .bk (unbind i e) m
  | .ct e m => .ct (unbind i e) m
  | .exc _ _ _ _ => .bad
  | r => r
mutual
noncomputable def denS : MS → Sl → Sto → RS
  | .set i a, e, m => (den a e m).st e fun x m1 => .nx (e.set i (some x)) m1
  | .aug i a, e, m => match e[i]? with
    | some (some (.int x)) => (den a e m).st e fun y m1 => match y with
      | .int j => .nx (e.set i (some (.int (x + j)))) m1
      | _ => .bad
    | _ => .bad
  | .bnd l a, e, m => (den a e m).st e fun x m1 => match bindT (.many l) x e with
    | some e' => .nx e' m1
    | none => .bad
  | .sub o k a, e, m => (den a e m).st e fun x m1 => (den o e m1).st e fun t m2 => (den k e m2).st e fun y m3 => subS t y x e m3
  | .lm k o l, e, m => (den o e m).st e fun t m1 => match t with
    | .hd n => match m1[n]? with
      | some (.lst _) => (denL l e m1).st e fun ts m2 => match m2[n]? with
        | some (.lst xs) => match lmT k xs ts m2 with
          | some ys => .nx e (m2.set n (.lst ys))
          | none => .bad
        | _ => .bad
      | _ => .bad
    | _ => .bad
  | .fset2 fs o gs q a, e, m => (den a e m).st e fun x m1 => match x with
    | .tup [u, w] => (den o e m1).st e fun t m2 => match fsetT fs t u m2 with
      | some m3 => (den q e m3).st e fun t2 m4 => match fsetT gs t2 w m4 with
        | some m5 => .nx e m5
        | none => .bad
      | none => .bad
    | _ => .bad
  | .fset fs o a, e, m => (den a e m).st e fun x m1 => (den o e m1).st e fun t m2 => match fsetT fs t x m2 with
    | some m3 => .nx e m3
    | none => .bad
  | .faug fs o a, e, m => (den o e m).st e fun t m1 => (fldT fs t m1).st e fun x m2 => (den a e m2).st e fun y m3 => faugK fs e t (clsN m1 t) x y m3
  | .expr a, e, m => (den a e m).st e fun _ m1 => .nx e m1
  | .ret a, e, m => (den a e m).st e fun x m1 => .rt x m1
  | .retN, _, m => .rt .non m
  | .ite c a b, e, m => (den c e m).st e fun x m1 => match x with
    | .bl true => denSs a e m1
    | .bl false => denSs b e m1
    | _ => .bad
  | .for g it b, e, m => (denI it e m).st e fun w m1 => forL (fun t e' m2 => guardS w (match bindT g t e' with
    | some e2 => denSs b e2 m2
    | none => .bad)) w.xs e m1
  | .whl n c b, e, m => whlL (fun e m => den c e m) (fun e m => denSs b e m) n e m
  | .brk, e, m => .bk e m
  | .cont, e, m => .ct e m
  | .pass, e, m => .nx e m
  | .rse c l, e, m => (denL l e m).st e fun xs m1 => .exc c xs e m1
  | .try b cs i s, e, m => match denSs b e m with
    | .exc c xs e1 m1 => match cs.lookup c with
      | some true => (denSs s (match i with
        | some i => e1.set i (some (.exn c xs))
        | none => e1) m1).unb i
      | some false => .exc c xs e1 m1
      | none => .bad
    | r => r
  | .never, _, _ => .bad
noncomputable def denSs : List MS → Sl → Sto → RS
  | [], e, m => .nx e m
  | s :: l, e, m => (denS s e m).seq fun e' m' => denSs l e' m'
end
/-- a def that keeps its handles; one that lets go of them -/
noncomputable def fnK (np nl : Nat) (b : List MS) : Fn := fun ts m => if ts.length = np then (match denSs b (ts.map some ++ List.replicate (nl - np) none) m with
  | .nx _ m' => .ok .non m'
  | .rt t m' => .ok t m'
  | .exc c xs _ m' => .exc c xs m'
  | _ => .bad) else .bad
noncomputable def fnD (np nl : Nat) (b : List MS) : Fn := fun ts m => match fnK np nl b ts m with
  | .ok t m' => drp m m' t
  | .exc c xs m' => drpX c xs m m'
  | .bad => .bad
end BV
/-! the relation of trees to the abstract heap -/
namespace BV
open PySem PySem.Spec L2
/-- what stands still: the written part, the module's names, the classes with their fields' names -/
structure Sg where
  K : PySem.W.Frag
  mg : Str → Option Value
  tab : List (Str × List Str)
/-- the things that may change: those of handles, and some more; the handles' places -/
structure Gh where
  A : Addr → Prop
  ph : List Addr
  sub : ∀ a, a ∈ ph → A a
/-- the script: a locked list, or one of the written part -/
def SqS (K : PySem.W.Frag) (H : Hp) (a : Addr) (xs : List V) : Prop := (∃ o, H a = some (.frz o (.lst xs))) ∨ SqL K (fun _ => none) a xs
theorem SqS.sq {K : PySem.W.Frag} {H : Hp} {a : Addr} {xs : List V} (h : SqS K H a xs) : SqL K H a xs := by
  rcases h with ⟨o, h⟩ | (h | ⟨o, h⟩) | h
  · exact .inl (.inr ⟨o, h⟩)
  · cases h
  · cases h
  · exact .inr h
/-- or a list that is no handle -/
def SqA (K : PySem.W.Frag) (A : Addr → Prop) (H : Hp) (a : Addr) (xs : List V) : Prop := SqS K H a xs ∨ (¬ A a ∧ H a = some (.lst xs))
theorem SqA.sq {K : PySem.W.Frag} {A : Addr → Prop} {H : Hp} {a : Addr} {xs : List V} (h : SqA K A H a xs) : SqL K H a xs := by
  rcases h with h | ⟨_, h⟩
  · exact h.sq
  · exact .inl (.inl h)
theorem SqA.less {K : PySem.W.Frag} {A B : Addr → Prop} {H H' : Hp} {a : Addr} {xs : List V} (h : SqA K A H a xs) (hA : ∀ a, B a → A a) (f : ∀ o u, H a = some (.frz o u) → H' a = some (.frz o u)) (e : ∀ o, ¬ A a → H a = some o → H' a = some o) : SqA K B H' a xs := by
  rcases h with (⟨o, h⟩ | h) | ⟨n, h⟩
  · exact .inl (.inl ⟨o, f _ _ h⟩)
  · exact .inl (.inr h)
  · exact .inr ⟨fun z => n (hA _ z), e _ n h⟩
/-- a lambda of one plain parameter that tells None -/
def lamB (ps : Arguments) (b : Expr) (sc : Scope) : Bool := (match ps with
  | ⟨[], [a], none, [], [], none, []⟩ => decide (sc.names.lookup a.arg = some .local)
  | _ => false) && ((match b with
  | .Constant .none _ _ => true
  | _ => false) && (decide (sc.kind = .function) && (!sc.isCoroutine && (!sc.isGenerator && sc.names.all fun y => !decide (y.2 = .cell) && !decide (y.2 = .free)))))
/-- the function that such a lambda makes -/
def FnL (f : Addr) (q : Str) (ps : Arguments) (b : Expr) (sc : Scope) (c : Addr) : HO := .ext fun h => ∃ (od : Option Addr) (sl : Array (Option Value)) (pm ctv : Value), h.get? f = some (⟨.type "function", od, .func (PySem.W.kla_fn "<lambda>" q ps b sc [] pm (.ref c) ctv), sl⟩ : Obj)
/-- the function at a -/
def FnN (A : Addr → Prop) (H : Hp) (a : Addr) : Prop := ¬ A a ∧ ∃ q ps b sc c, H a = some (FnL a q ps b sc c) ∧ lamB ps b sc = true ∧ ¬ A c ∧ H c = some (LamX.CodeO c q)
/-- a code object's table -/
def TabA (A : Addr → Prop) (H : Hp) (P : Addr) (q : Str) : Prop := ∃ ps : Array Value, H P = some (.tbl ps) ∧ TriplesOk ps.toList ∧ ∀ (pos : Pos) (cv : Value), codeAmong pos ps.toList = some cv → ∃ c, cv = .ref c ∧ H c = some (LamX.CodeO c q) ∧ ¬ A c
mutual
def rep (S : Sg) (g : Gh) (H : Hp) : T → V → Prop
  | .non, v => v = .non
  | .bl b, v => v = .bl b
  | .int i, v => v = .int i
  | .str x, v => v = .str x ∧ x.length ≤ 16777216
  | .ty n, v => v = .ty n
  | .lst xs, v => ∃ a vs, v = .ref a ∧ ¬ g.A a ∧ H a = some (.lst vs) ∧ xs.length ≤ 16777216 ∧ reps S g H xs vs
  | .tup xs, v => ∃ a vs, v = .ref a ∧ SqT S.K H a vs ∧ xs.length ≤ 16777216 ∧ reps S g H xs vs
  | .obj c xs, v => ∃ a C dx fvs n ks, v = .ref a ∧ ¬ g.A a ∧ S.tab[c]? = some (n, ks) ∧ S.mg n = some (.ref C) ∧ H a = some (.ins C dx fvs) ∧ fvs.map (·.1) = ks.take fvs.length ∧ reps S g H xs (fvs.map (·.2))
  | .hd n, v => ∃ a, v = .ref a ∧ g.ph[n]? = some a
  | .scr xs, v => ∃ a, v = .ref a ∧ SqA S.K g.A H a (xs.map .int) ∧ xs.length ≤ 16777216
  | .exn _ _, v => ∃ a, v = .ref a
  | .fn x, v => ∃ a, v = .ref a ∧ (match x with | some x => S.mg x = some (.ref a) | none => FnN g.A H a)
def reps (S : Sg) (g : Gh) (H : Hp) : List T → List V → Prop
  | [], vs => vs = []
  | x :: xs, vs => ∃ v r, vs = v :: r ∧ rep S g H x v ∧ reps S g H xs r
end
/-- what stands at a handle -/
def cellOk (S : Sg) (g : Gh) (H : Hp) (a : Addr) : Cell → Prop
  | .lst xs => ∃ vs, H a = some (.lst vs) ∧ xs.length ≤ 16777216 ∧ reps S g H xs vs
  | .ins c xs => ∃ C dx fvs n ks, S.tab[c]? = some (n, ks) ∧ S.mg n = some (.ref C) ∧ H a = some (.ins C dx fvs) ∧ fvs.map (·.1) = ks.take fvs.length ∧ reps S g H xs (fvs.map (·.2))
  | .dK kvs => ∃ us : List (L2.Key × V), H a = some (.dK us) ∧ kvs.length ≤ 16777216 ∧ us.map (·.1) = kvs.map (·.1) ∧ reps S g H (kvs.map (·.2)) (us.map (·.2))
  | .tab x q => a = (He.cT S.K (x, none)).2 ∧ TabA g.A H a q
structure Rel (S : Sg) (g : Gh) (m : Sto) (H : Hp) : Prop where
  len : g.ph.length = m.length
  nd : g.ph.Nodup
  has : ∀ a, g.A a → H a ≠ none
  cell : ∀ (n : Nat) (a : Addr) (c : Cell), g.ph[n]? = some a → m[n]? = some c → cellOk S g H a c
/-- what a piece of code may do -/
structure Stp (g : Gh) (H : Hp) (g' : Gh) (H' : Hp) : Prop where
  pre : ∃ l, g'.ph = g.ph ++ l
  kp : ∀ a o, H a = some o → a ∉ g.ph → H' a = some o ∧ (g'.A a ↔ g.A a)
  hs : ∀ a, H a ≠ none → H' a ≠ none
  tp : ∀ a xs, H a = some (.tup xs) → H' a = some (.tup xs)
  fz : ∀ a o u, H a = some (.frz o u) → H' a = some (.frz o u)
  np : ∀ a, H a ≠ none → a ∉ g.ph → a ∉ g'.ph
theorem Stp.refl (g : Gh) (H : Hp) : Stp g H g H := ⟨⟨[], by simp⟩, fun a o e n => ⟨e, Iff.rfl⟩, fun _ h => h, fun _ _ h => h, fun _ _ _ h => h, fun _ _ h => h⟩
theorem some_ne {H : Hp} {a : Addr} {o : HO} (e : H a = some o) : H a ≠ none := by rw [e]; exact fun z => nomatch z
theorem Stp.trans {g g1 g2 : Gh} {H H1 H2 : Hp} (a : Stp g H g1 H1) (b : Stp g1 H1 g2 H2) : Stp g H g2 H2 := by
  refine ⟨?_, fun c o e n => ?_, fun c h => b.hs c (a.hs c h), fun c xs h => b.tp c xs (a.tp c xs h), fun c o u h => b.fz c o u (a.fz c o u h), fun c h n => b.np c (a.hs c h) (a.np c h n)⟩
  · obtain ⟨l, e⟩ := a.pre
    obtain ⟨l', e'⟩ := b.pre
    exact ⟨l ++ l', by rw [e', e, List.append_assoc]⟩
  · obtain ⟨e1, i1⟩ := a.kp c o e n
    obtain ⟨e2, i2⟩ := b.kp c o e1 (a.np c (some_ne e) n)
    exact ⟨e2, i2.trans i1⟩
theorem Stp.at {g g' : Gh} {H H' : Hp} (s : Stp g H g' H') {n : Nat} {a : Addr} (h : g.ph[n]? = some a) : g'.ph[n]? = some a := by
  obtain ⟨l, e⟩ := s.pre
  rw [e, List.getElem?_append_left (List.getElem?_eq_some_iff.mp h).1]
  exact h
/-- new things alone -/
theorem Stp.ext {g : Gh} {H H' : Hp} (h : ∀ a o, H a = some o → H' a = some o) : Stp g H g H' :=
  ⟨⟨[], by simp⟩, fun a o e n => ⟨h a o e, Iff.rfl⟩, fun a n => (by
    cases q : H a with
    | none => exact absurd q n
    | some o => rw [h a o q]; exact fun z => nomatch z), fun a xs e => h a _ e, fun a o u e => h a _ e, fun _ _ n => n⟩
theorem ext_upd {H : Hp} {p : Addr} {o : HO} (hp : H p = none) : ∀ a u, H a = some u → upd H p o a = some u := fun a u e => by
  rw [upd_ne (ne_of_none e hp)]
  exact e
theorem Stp.sqt {S : Sg} {g g' : Gh} {H H' : Hp} (s : Stp g H g' H') {a : Addr} {xs : List V} (h : SqT S.K H a xs) : SqT S.K H' a xs := by
  rcases h with (h | ⟨o, h⟩) | h
  · exact .inl (.inl (s.tp a xs h))
  · exact .inl (.inr ⟨o, s.fz a o _ h⟩)
  · exact .inr h
theorem FnN.mono {g g' : Gh} {H H' : Hp} {a : Addr} (h : FnN g.A H a) (s : Stp g H g' H') : FnN g'.A H' a := by
  obtain ⟨na, q, ps, b, sc, c, h1, h2, h3, h4⟩ := h
  obtain ⟨e1, i1⟩ := s.kp a _ h1 fun z => na (g.sub a z)
  obtain ⟨e2, i2⟩ := s.kp c _ h4 fun z => h3 (g.sub c z)
  exact ⟨fun z => na (i1.mp z), q, ps, b, sc, c, e1, h2, fun z => h3 (i2.mp z), e2⟩
theorem TabA.mono {g g' : Gh} {H H' : Hp} {P : Addr} {q : Str} (h : TabA g.A H P q) (s : Stp g H g' H') (e : ∀ o, H P = some o → H' P = some o) : TabA g'.A H' P q := by
  obtain ⟨ps, h1, h2, h3⟩ := h
  refine ⟨ps, e _ h1, h2, fun pos cv hc => ?_⟩
  obtain ⟨c, e1, e2, e3⟩ := h3 pos cv hc
  obtain ⟨k1, k2⟩ := s.kp c _ e2 fun z => e3 (g.sub c z)
  exact ⟨c, e1, k1, fun z => e3 (k2.mp z)⟩
theorem FnN.less {A B : Addr → Prop} {H H' : Hp} {a : Addr} (h : FnN A H a) (hA : ∀ a, B a → A a) (e : ∀ a o, ¬ A a → H a = some o → H' a = some o) : FnN B H' a := by
  obtain ⟨na, q, ps, b, sc, c, h1, h2, h3, h4⟩ := h
  exact ⟨fun z => na (hA _ z), q, ps, b, sc, c, e _ _ na h1, h2, fun z => h3 (hA _ z), e _ _ h3 h4⟩
theorem TabA.less {A B : Addr → Prop} {H H' : Hp} {P : Addr} {q : Str} (h : TabA A H P q) (hA : ∀ a, B a → A a) (k : ∀ o, H P = some o → H' P = some o) (e : ∀ a o, ¬ A a → H a = some o → H' a = some o) : TabA B H' P q := by
  obtain ⟨ps, h1, h2, h3⟩ := h
  refine ⟨ps, k _ h1, h2, fun pos cv hc => ?_⟩
  obtain ⟨c, e1, e2, e3⟩ := h3 pos cv hc
  exact ⟨c, e1, e _ _ e3 e2, fun z => e3 (hA _ z)⟩
mutual
theorem rep_mono {S : Sg} {g g' : Gh} {H H' : Hp} (s : Stp g H g' H') : ∀ (t : T) (v : V), rep S g H t v → rep S g' H' t v
  | .non, _, h => h
  | .bl _, _, h => h
  | .int _, _, h => h
  | .str _, _, h => h
  | .ty _, _, h => h
  | .lst xs, v, h => by
    obtain ⟨a, vs, e, na, ha, l, r⟩ := h
    obtain ⟨e1, i1⟩ := s.kp a _ ha fun z => na (g.sub a z)
    exact ⟨a, vs, e, fun z => na (i1.mp z), e1, l, reps_mono s xs vs r⟩
  | .tup xs, v, h => by
    obtain ⟨a, vs, e, q, l, r⟩ := h
    exact ⟨a, vs, e, s.sqt q, l, reps_mono s xs vs r⟩
  | .obj c xs, v, h => by
    obtain ⟨a, C, dx, fvs, n, ks, e, na, ht', hm, ha, hk, r⟩ := h
    obtain ⟨e1, i1⟩ := s.kp a _ ha fun z => na (g.sub a z)
    exact ⟨a, C, dx, fvs, n, ks, e, fun z => na (i1.mp z), ht', hm, e1, hk, reps_mono s xs _ r⟩
  | .hd n, v, h => by
    obtain ⟨a, e, q⟩ := h
    exact ⟨a, e, s.at q⟩
  | .scr xs, v, h => by
    obtain ⟨a, e, ha, l⟩ := h
    refine ⟨a, e, ?_, l⟩
    rcases ha with (⟨o, ha⟩ | ha) | ⟨n, ha⟩
    · exact .inl (.inl ⟨o, s.fz a o _ ha⟩)
    · exact .inl (.inr ha)
    · obtain ⟨e1, i1⟩ := s.kp a _ ha fun z => n (g.sub a z)
      exact .inr ⟨fun z => n (i1.mp z), e1⟩
  | .exn _ _, _, h => h
  | .fn (some _), _, h => h
  | .fn none, v, h => by
    obtain ⟨a, e, q⟩ := h
    exact ⟨a, e, FnN.mono q s⟩
theorem reps_mono {S : Sg} {g g' : Gh} {H H' : Hp} (s : Stp g H g' H') : ∀ (xs : List T) (vs : List V), reps S g H xs vs → reps S g' H' xs vs
  | [], _, h => h
  | x :: xs, _, h => by
    obtain ⟨v, r, e, h1, h2⟩ := h
    exact ⟨v, r, e, rep_mono s x v h1, reps_mono s xs r h2⟩
end
theorem reps_len {S : Sg} {g : Gh} {H : Hp} : ∀ {xs : List T} {vs : List V}, reps S g H xs vs → vs.length = xs.length
  | [], _, h => by
    have e : _ = [] := h
    rw [e]; rfl
  | x :: xs, _, h => by
    obtain ⟨v, r, e, _, h2⟩ := h
    rw [e, List.length_cons, List.length_cons, reps_len h2]
theorem reps_get {S : Sg} {g : Gh} {H : Hp} : ∀ {xs : List T} {vs : List V} {i : Nat} {x : T}, reps S g H xs vs → xs[i]? = some x → ∃ v, vs[i]? = some v ∧ rep S g H x v
  | [], _, i, x, _, q => by simp at q
  | y :: xs, _, 0, x, h, q => by
    obtain ⟨v, r, e, h1, _⟩ := h
    subst e
    have z : y = x := by simpa using q
    subst z
    exact ⟨v, by simp, h1⟩
  | y :: xs, _, i + 1, x, h, q => by
    obtain ⟨v, r, e, _, h2⟩ := h
    subst e
    obtain ⟨u, q1, q2⟩ := reps_get h2 (by simpa using q)
    exact ⟨u, by simpa using q1, q2⟩
theorem reps_app {S : Sg} {g : Gh} {H : Hp} : ∀ {xs ys : List T} {vs ws : List V}, reps S g H xs vs → reps S g H ys ws → reps S g H (xs ++ ys) (vs ++ ws)
  | [], _, _, _, h, k => by
    have e : _ = [] := h
    rw [e]; exact k
  | x :: xs, _, _, _, h, k => by
    obtain ⟨v, r, e, h1, h2⟩ := h
    subst e
    exact ⟨v, _, rfl, h1, reps_app h2 k⟩
theorem reps_drop {S : Sg} {g : Gh} {H : Hp} : ∀ {xs : List T} {vs : List V} (n : Nat), reps S g H xs vs → reps S g H (xs.drop n) (vs.drop n)
  | _, _, 0, h => by simpa using h
  | [], _, n + 1, h => by
    have e : _ = [] := h
    subst e
    exact rfl
  | x :: xs, _, n + 1, h => by
    obtain ⟨v, r, e, _, h2⟩ := h
    subst e
    simpa using reps_drop n h2
theorem reps_take {S : Sg} {g : Gh} {H : Hp} : ∀ {xs : List T} {vs : List V} (n : Nat), reps S g H xs vs → reps S g H (xs.take n) (vs.take n)
  | _, _, 0, h => by simp [reps]
  | [], _, n + 1, h => by
    have e : _ = [] := h
    subst e
    exact rfl
  | x :: xs, _, n + 1, h => by
    obtain ⟨v, r, e, h1, h2⟩ := h
    subst e
    exact ⟨v, _, rfl, h1, reps_take n h2⟩
theorem reps_set {S : Sg} {g : Gh} {H : Hp} {x : T} {v : V} (hx : rep S g H x v) : ∀ {xs : List T} {vs : List V} (n : Nat), reps S g H xs vs → reps S g H (xs.set n x) (vs.set n v)
  | [], _, n, h => by
    have e : _ = [] := h
    subst e
    exact rfl
  | y :: xs, _, 0, h => by
    obtain ⟨u, r, e, h1, h2⟩ := h
    subst e
    exact ⟨v, _, rfl, hx, h2⟩
  | y :: xs, _, n + 1, h => by
    obtain ⟨u, r, e, h1, h2⟩ := h
    subst e
    exact ⟨u, _, rfl, h1, reps_set hx n h2⟩
theorem reps_ints {S : Sg} {g : Gh} {H : Hp} : ∀ (ns : List Int), reps S g H (ns.map .int) (ns.map .int)
  | [] => rfl
  | n :: ns => ⟨_, _, rfl, rfl, reps_ints ns⟩
theorem cell_mono {S : Sg} {g g' : Gh} {H H' : Hp} (s : Stp g H g' H') {a : Addr} {c : Cell} (e : ∀ o, H a = some o → H' a = some o) (h : cellOk S g H a c) : cellOk S g' H' a c := by
  cases c with
  | lst xs =>
    obtain ⟨vs, q, l, r⟩ := h
    exact ⟨vs, e _ q, l, reps_mono s _ _ r⟩
  | ins c xs =>
    obtain ⟨C, dx, fvs, n, ks, h1, h2, h3, h4, h5⟩ := h
    exact ⟨C, dx, fvs, n, ks, h1, h2, e _ h3, h4, reps_mono s _ _ h5⟩
  | dK kvs =>
    obtain ⟨us, q, l, k, r⟩ := h
    exact ⟨us, e _ q, l, k, reps_mono s _ _ r⟩
  | tab x q =>
    obtain ⟨h1, h2⟩ := h
    exact ⟨h1, h2.mono s e⟩
/-- new things alone: the handles stand -/
theorem Rel.ext {S : Sg} {g : Gh} {m : Sto} {H H' : Hp} (r : Rel S g m H) (h : ∀ a o, H a = some o → H' a = some o) : Rel S g m H' :=
  ⟨r.len, r.nd, fun a z q => (by
    cases e : H a with
    | none => exact r.has a z e
    | some o => rw [h a o e] at q; cases q), fun n a c h1 h2 => cell_mono (Stp.ext h) (fun o => h a o) (r.cell n a c h1 h2)⟩
/-! ### slots -/
/-- the exception that an except clause holds: its slot, its place, its class, its own dict -/
structure Xz where
  i : Nat
  a : Addr
  cls : Value
  d : Option Addr
/-- an exception's class and fields (one field at most) -/
def repX (S : Sg) (g : Gh) (H : Hp) (c : Nat) (xs : List T) (cls : Value) (d : Option Addr) : Prop :=
  ∃ n ks C, S.tab[c]? = some (n, ks) ∧ S.mg n = some (.ref C) ∧ cls = .ref C ∧ match xs with
    | [] => d = none
    | x :: _ => ∃ dd v f, d = some dd ∧ ks = [f] ∧ H dd = some (.xd [(f, v)]) ∧ ¬ g.A dd ∧ rep S g H x v ∧ xs = [x]
def slotsOk (S : Sg) (z : Option Xz) (g : Gh) (H : Hp) (e : Sl) (σ : L2.St) : Prop :=
  e.length = σ.length ∧ (∀ (i : Nat) (t : T), e[i]? = some (some t) → ∃ v, σ[i]? = some (some v) ∧ rep S g H t v) ∧
    ∀ x, z = some x → ∀ c xs, e[x.i]? = some (some (.exn c xs)) → σ[x.i]? = some (some (.ref x.a)) ∧ repX S g H c xs x.cls x.d
theorem repX_mono {S : Sg} {g g' : Gh} {H H' : Hp} (s : Stp g H g' H') {c : Nat} {xs : List T} {cls : Value} {d : Option Addr} (h : repX S g H c xs cls d) : repX S g' H' c xs cls d := by
  obtain ⟨n, ks, C, h1, h2, h3, h4⟩ := h
  refine ⟨n, ks, C, h1, h2, h3, ?_⟩
  cases xs with
  | nil => exact h4
  | cons x xs =>
    obtain ⟨dd, v, f, e1, e2, e3, e4, e5, e6⟩ := h4
    obtain ⟨q1, q2⟩ := s.kp dd _ e3 fun z => e4 (g.sub dd z)
    exact ⟨dd, v, f, e1, e2, q1, fun z => e4 (q2.mp z), rep_mono s _ _ e5, e6⟩
theorem slots_mono {S : Sg} {z : Option Xz} {g g' : Gh} {H H' : Hp} (s : Stp g H g' H') {e : Sl} {σ : L2.St} (h : slotsOk S z g H e σ) : slotsOk S z g' H' e σ :=
  ⟨h.1, fun i t q => by
    obtain ⟨v, e1, e2⟩ := h.2.1 i t q
    exact ⟨v, e1, rep_mono s t v e2⟩, fun x hx c xs q => by
    obtain ⟨e1, e2⟩ := h.2.2 x hx c xs q
    exact ⟨e1, repX_mono s e2⟩⟩
/-! ### what is wanted behind a result -/
def Po (S : Sg) (g : Gh) (H : Hp) {α : Type} (R : Gh → Hp → α → Sto → Prop) (W : Value → Option Addr → Hp → Prop) (r : Rs α) : Prop := match r with
  | .ok a m' => ∀ g' H', Stp g H g' H' → Rel S g' m' H' → R g' H' a m'
  | .exc c xs m' => ∀ g' H' cls d, Stp g H g' H' → Rel S g' m' H' → repX S g' H' c xs cls d → W cls d H'
  | .bad => False
/-- of a thing -/
abbrev PoT (S : Sg) (g : Gh) (H : Hp) (Q : VK) (W : Value → Option Addr → Hp → Prop) (r : Rs T) : Prop := Po S g H (fun g' H' t _ => ∀ v, rep S g' H' t v → Q v H') W r
theorem Po.later {S : Sg} {g g1 : Gh} {H H1 : Hp} {α : Type} {R : Gh → Hp → α → Sto → Prop} {W : Value → Option Addr → Hp → Prop} {r : Rs α} (s : Stp g H g1 H1) (h : Po S g H R W r) : Po S g1 H1 R W r := by
  cases r with
  | ok a m' => exact fun g' H' s' => h g' H' (s.trans s')
  | exc c xs m' => exact fun g' H' cls d s' => h g' H' cls d (s.trans s')
  | bad => exact h
theorem Po.imp {S : Sg} {g : Gh} {H : Hp} {α : Type} {R R' : Gh → Hp → α → Sto → Prop} {W : Value → Option Addr → Hp → Prop} {r : Rs α} (h : Po S g H R W r) (k : ∀ g' H' a m', Stp g H g' H' → Rel S g' m' H' → R g' H' a m' → R' g' H' a m') : Po S g H R' W r := by
  cases r with
  | ok a m' => exact fun g' H' s' rl => k g' H' a m' s' rl (h g' H' s' rl)
  | exc c xs m' => exact h
  | bad => exact h
theorem Po.bind {S : Sg} {g : Gh} {H : Hp} {α β : Type} {R : Gh → Hp → β → Sto → Prop} {W : Value → Option Addr → Hp → Prop} {r : Rs α} {k : α → Sto → Rs β} (h : Po S g H R W (r.bind k)) :
    Po S g H (fun g' H' a m' => Stp g H g' H' ∧ r = .ok a m' ∧ Po S g' H' R W (k a m')) W r := by
  cases r with
  | ok a m' => exact fun g' H' s' rl => ⟨s', rfl, Po.later s' (show Po S g H R W (k a m') from h)⟩
  | exc c xs m' => exact h
  | bad => exact h
end BV
/-! the checker: from the text to the intermediate language -/
namespace BV
open PySem PySem.Spec L2
/-- what stands where nothing is being handled -/
def biHot : BI → Bool
  | .max => false | .min => false | .all => false | .any => false
  | _ => true
structure Ctx where
  fns : List (Str × Nat × Fn) := []
  mks : List (Str × Nat × Bool × Fn) := []
  mkd : List (Str × Nat × Nat × Fn × T) := []
  flds : List (Str × List (Nat × Nat)) := []
  mths : List (Str × List (Nat × Fn)) := []
  mthd : List (Str × Nat × List (Nat × Fn) × T) := []
  rses : List (Str × Nat) := []
  roes : List (Str × Nat) := []
  roed : List (Str × Nat × Int) := []
  bis : List Str := []
  csts : List (Str × T) := []
  muts : List Str := []
  hld : List Str := []
  xis : List (Str × List (Nat × Bool)) := []
  xfl : List (Str × List Nat) := []
  trs : List (Str × List (Nat × Bool)) := []
  hfs : List (Str × Fn) := []
  whl : Nat := 0
structure Sc where
  N : List Str
  sc : Scope
  calm : Bool
  hot : Option Nat
  /-- the handle of the table of the def's code objects, its name, its lambdas' name -/
  lam : Option (Nat × Str × Str) := none
def ixOf (x : Str) : List Str → Nat → Option Nat
  | [], _ => none
  | y :: r, k => if y = x then some k else ixOf x r (k + 1)
def visB (sc : Scope) (x : Str) : Bool := match sc.names.lookup x with
  | some .local => true | some .cell => true | some .free => true
  | _ => false
def locB (sc : Scope) (x : Str) : Bool := match sc.names.lookup x with
  | some .local => true | some .cell => true
  | _ => false
def lcB (sc : Scope) (x : Str) : Bool := match sc.names.lookup x with
  | some .local => true
  | _ => false
def glB (sc : Scope) (x : Str) : Bool := match sc.names.lookup x with
  | some .globalImplicit => true
  | _ => false
def dbg (x : Str) : Bool := (x == ("__debug__" : Str)) || (x == ("__classdict__" : Str))
def tyOf (x : Str) : Option Ty := if x = Str.ofString "int" then some .int else if x = Str.ofString "bool" then some .bool else if x = Str.ofString "str" then some .str else if x = Str.ofString "list" then some .list else if x = Str.ofString "tuple" then some .tuple else if x = Str.ofString "dict" then some .dict else none
def biOf (x : Str) : Option BI := if x = Str.ofString "len" then some .len else if x = Str.ofString "abs" then some .abs else if x = Str.ofString "max" then some .max else if x = Str.ofString "min" then some .min else if x = Str.ofString "int" then some .int else if x = Str.ofString "list" then some .list else if x = Str.ofString "tuple" then some .tuple else if x = Str.ofString "all" then some .all else if x = Str.ofString "any" then some .any else if x = Str.ofString "divmod" then some .divmod else if x = Str.ofString "sorted" then some .sorted else if x = Str.ofString "str" then some .str else none
def smOf (x : Str) : Option SM := if x = Str.ofString "index" then some .index else if x = Str.ofString "find" then some .find else if x = Str.ofString "startswith" then some .starts else if x = Str.ofString "split" then some .split else if x = Str.ofString "partition" then some .part else if x = Str.ofString "join" then some .join else none
/-- methods of lists, dicts and texts that tell a value, by name and number of arguments -/
def bmsOf (mu : List Str) (x : Str) (n : Nat) : List BM :=
  if x = Str.ofString "pop" then (if n = 0 then [.lpop0] else if n = 1 then [.lpop, .dpop1] else if n = 2 then [.dpop2] else [])
  else if x = Str.ofString "insert" then (if n = 2 then [.lins] else [])
  else if x = Str.ofString "reverse" then (if n = 0 then [.lrev] else [])
  else if x = Str.ofString "get" then (if n = 1 then [.dget1] else if n = 2 then [.dget2] else [])
  else if x = Str.ofString "upper" then (if n = 0 then [.upper] else [])
  else if x = Str.ofString "index" then (if n = 1 && mu.contains (Str.ofString "@index") then [.lidx] else [])
  else if x = Str.ofString "count" then (if n = 1 then [.lcnt] else [])
  else []
def cDict (f : Expr → Option ME) : List (Option Expr) → List Expr → Option (List ME)
  | [], [] => some []
  | some k :: ks, v :: vs => match f k, f v, cDict f ks vs with
    | some a, some b, some l => some (a :: b :: l)
    | _, _, _ => none
  | _, _ => none
def isStar : Expr → Bool
  | .Starred .. => true
  | _ => false
def isSet : Expr → Bool
  | .Set .. => true
  | _ => false
def isSlc : Expr → Bool
  | .Slice .. => true
  | _ => false
def isCmp : Expr → Bool
  | .ListComp .. => true | .SetComp .. => true | .DictComp .. => true
  | _ => false
/-- a call that may be super() -/
def isCall : Expr → Bool
  | .Call (.Name ..) [] [] _ => true
  | _ => false
/-- what may be asked as a test -/
def okT : Nat → Expr → Bool
  | 0, _ => false
  | n + 1, e => match e with
    | .UnaryOp .Not a _ => okT n a
    | .BoolOp _ vs _ => vs.all (okT n)
    | .IfExp .. => false
    | _ => true
def nms : List Expr → Option (List Str)
  | [] => some []
  | .Name x _ :: r => (nms r).map (x :: ·)
  | _ => none
def ixs (N : List Str) : List Str → Option (List Nat)
  | [] => some []
  | x :: r => match ixOf x N 0, ixs N r with
    | some i, some l => some (i :: l)
    | _, _ => none
/-- the tree's names as one -/
def tgC (S : Sc) (loc : Str → Bool) : Expr → Option (Tg × List Str × List Nat)
  | .Name x _ => if loc x then (match ixOf x S.N 0 with
    | some i => if S.hot = some i then none else some (.one i, [x], [i])
    | none => none) else none
  | .Tuple es _ _ => match nms es with
    | some xs => if xs.all loc then (match ixs S.N xs with
      | some l => if l.any (fun i => S.hot = some i) then none else some (.many l, xs, l)
      | none => none) else none
    | none => none
  | _ => none
def cL (f : Expr → Option ME) : List Expr → Option (List ME)
  | [] => some []
  | a :: r => if isStar a then none else match f a, cL f r with
    | some x, some l => some (x :: l)
    | _, _ => none
def cO (f : Expr → Option ME) : Option Expr → Option (Option ME)
  | none => some none
  | some a => (f a).map some
def cBo (f : Expr → Option ME) (op : BoolOp) : List Expr → Option ME
  | [] => none
  | [a] => f a
  | a :: r => match f a, cBo f op r with
    | some x, some y => some (match op with | .And => .and x y | .Or => .or x y)
    | _, _ => none
/-- the slot of the exception that the suite holds -/
def hotOf (S : Sc) : Expr → Option Nat
  | .Name x _ => if dbg x then none else if visB S.sc x then (match ixOf x S.N 0 with
    | some i => if S.hot = some i then some i else none
    | none => none) else none
  | _ => none
/-- classes by their names -/
def cXs (sc : Scope) (xis : List (Str × List (Nat × Bool))) : List Expr → Option (List (List (Nat × Bool)))
  | [] => some []
  | .Name x _ :: r => match xis.lookup x, cXs sc xis r with
    | some t, some l => if glB sc x && !dbg x then some (t :: l) else none
    | _, _ => none
  | _ => none
def cTs (sc : Scope) (bis : List Str) : List Expr → Option (List Ty)
  | [] => some []
  | .Name x _ :: r => match tyOf x, cTs sc bis r with
    | some t, some l => if glB sc x && bis.contains x then some (t :: l) else none
    | _, _ => none
  | _ => none
section
variable (G : Ctx) (rec : Sc → Expr → Option ME) (S : Sc)
def cI (tup : Bool) (it : Expr) : Option MI := match it with
  | .Call (.Name x _) args [] _ =>
    if x = Str.ofString "range" then (if glB S.sc x && G.bis.contains x then (match args with
      | [a] => if isStar a then none else (rec S a).map .rng1
      | [a, b] => if isStar a || isStar b then none else (match rec S a, rec S b with
        | some x, some y => some (.rng2 x y)
        | _, _ => none)
      | [a, b, c] => if isStar a || isStar b || isStar c then none else (match rec S a, rec S b, rec S c with
        | some x, some y, some z => some (.rng3 x y z)
        | _, _, _ => none)
      | _ => none) else none)
    else if x = Str.ofString "enumerate" then (if tup && glB S.sc x && G.bis.contains x then (match args with
      | [a] => if isStar a then none else (rec S a).map .enm
      | _ => none) else none)
    else if x = Str.ofString "zip" then (if tup && glB S.sc x && G.bis.contains x then (match args with
      | [a, b] => if isStar a || isStar b then none else (match rec S a, rec S b with
        | some x, some y => some (.zip x y)
        | _, _ => none)
      | _ => none) else none)
    else (rec S it).map .seq
  | .Set .. => none
  | it => (rec S it).map .seq
def isTup : Expr → Bool
  | .Tuple .. => true
  | _ => false
def relSc (scope : Scope) : Sc := { S with sc := relS scope S.sc, lam := none }
def cC : List Expr → Option (List ME)
  | [] => some []
  | [c] => if okT 20 c then (rec S c).map ([·]) else none
  | _ => none
def cComp (elt : Expr) (gs : List Comprehension) (scope : Scope) : Option ME := match gs with
  | [⟨tg, it, ifs, j⟩] => if j ≠ 0 then none else if S.calm then (match cI G rec S (isTup tg) it, tgC S (lcB (relS scope S.sc)) tg with
    | some mi, some (t, xs, l) => if blkC S.N S.sc scope (xs.zip l) && decide (l.Nodup) then (match cC rec (relSc S scope) ifs, rec (relSc S scope) elt with
      | some cs, some x => some (.comp t mi cs x)
      | _, _ => none) else none
    | _, _ => none) else none
  | _ => none
/-- a class whose __init__ has a default: all but the last one told -/
def mkdOf (G : Ctx) (x : Str) (n : Nat) : Option (Nat × Fn × T) := match G.mkd.lookup x with
  | some (k, c, f, d) => if k = n then some (c, f, d) else none
  | none => none
def cCall (x : Str) (args : List Expr) : Option ME :=
  if dbg x || !glB S.sc x then none else
  if x = Str.ofString "isinstance" then (if G.bis.contains x then (match args with
    | [a, .Name y p] => (match hotOf S a with
      | some i => (match cXs S.sc G.xis [.Name y p] with
        | some css => some (.xis i css)
        | none => none)
      | none => if isStar a then none else (match tyOf y, rec S a with
        | some t, some m => if glB S.sc y && G.bis.contains y then some (.isi m t) else none
        | _, _ => none))
    | [a, .Tuple es _ _] => (match hotOf S a with
      | some i => (match cXs S.sc G.xis es with
        | some css => if es ≠ [] ∧ css.length ≤ 1000 then some (.xis i css) else none
        | none => none)
      | none => if isStar a then none else (match cTs S.sc G.bis es, rec S a with
        | some (t :: l), some m => if l.length ≤ 1000 then some (.isn m (t :: l)) else none
        | _, _ => none))
    | _ => none) else none)
  else match G.hfs.lookup x with
  | some f => (match args with
    | [a] => (hotOf S a).map (.xcall f)
    | _ => none)
  | none => match G.fns.lookup x with
  | some (n, f) => if S.calm && decide (args.length = n) && !args.isEmpty then (cL (rec S) args).map (.call f) else none
  | none => match mkdOf G x args.length with
   | some (c, f, d) => if S.calm && !args.isEmpty then (cL (rec S) args).map (fun l => .mk c f (l ++ [.cst d])) else none
   | none => match G.mks.lookup x with
    | some (c, fz, f) => if S.calm && (!fz || !args.isEmpty) then (cL (rec S) args).map (if fz then .mkF c f else .mk c f) else none
    | none => match biOf x with
      | some b => if G.bis.contains x && (S.calm || biHot b) && !args.isEmpty then (cL (rec S) args).map (.bi b) else none
      | none => none
def cMeth (o : Expr) (m : Str) (apos : Pos) (args : List Expr) (pos : Pos) : Option ME :=
  if isCall o || !(apos.endLine == pos.line) || (!S.calm && (G.mths.lookup m).isSome) || decide (30 ≤ args.length) then none else
  match G.mths.lookup m, rec S o, cL (rec S) args with
  | some fs, some mo, some l => some (.meth fs mo l)
  | none, some mo, some l => if (bmsOf G.muts m args.length).isEmpty then (if args.isEmpty then none else (smOf m).map (.sm · mo l)) else some (.bm (bmsOf G.muts m args.length) mo l)
  | _, _, _ => none
/-- a method with a default: all but the last one told -/
def mthdOf (G : Ctx) (m : Str) (n : Nat) : Option (List (Nat × Fn) × T) := match G.mthd.lookup m with
  | some (k, fs, d) => if k = n then some (fs, d) else none
  | none => none
def cMethD (fs : List (Nat × Fn)) (d : T) (o : Expr) (apos : Pos) (args : List Expr) (pos : Pos) : Option ME :=
  if isCall o || !(apos.endLine == pos.line) || !S.calm || decide (30 ≤ args.length) then none else
  match rec S o, cL (rec S) args with
  | some mo, some l => some (.meth fs mo (l ++ [.cst d]))
  | _, _ => none
/-- o.f(..), f a field that holds a function -/
def cVcall (o : Expr) (m : Str) (apos : Pos) (args : List Expr) (pos : Pos) : Option ME :=
  if isCall o || !(apos.endLine == pos.line) || !S.calm || decide (30 ≤ args.length) || args.isEmpty then none else
  match G.flds.lookup m, rec S o, cL (rec S) args with
  | some fs, some mo, some l => some (.vcall fs G.hld mo l)
  | _, _, _ => none
/-- one step -/
def cStep (e : Expr) : Option ME := match e with
  | .Name x _ => if dbg x then none else if visB S.sc x then (ixOf x S.N 0).map .var else if glB S.sc x then (if G.hld.contains x then (G.fns.lookup x).map (fun _ => .cst (.fn (some x))) else (G.csts.lookup x).map .cst) else none
  | .Constant c _ _ => (match c with
    | .none => some (.cst .non)
    | .bool b => some (.cst (.bl b))
    | .int i => some (.cst (.int i))
    | .str x => if x.length ≤ 16777216 then some (.cst (.str x)) else none
    | _ => none)
  | .List es _ => match cL (rec S) es with
    | some l => if l.length ≤ 1000 then some (.lst l) else none
    | none => none
  | .Tuple es _ _ => match cL (rec S) es with
    | some l => if l.length ≤ 1000 then some (.tup l) else none
    | none => none
  | .BinOp a o b _ => match rec S a, rec S b with
    | some x, some y => some (.bin o x y)
    | _, _ => none
  | .UnaryOp .USub a _ => (rec S a).map .neg
  | .UnaryOp .Not a _ => (rec S a).map .not
  | .BoolOp op vs _ => cBo (rec S) op vs
  | .IfExp c a b _ => if okT 20 c then (match rec S c, rec S a, rec S b with
    | some x, some y, some z => some (.ite x y z)
    | _, _, _ => none) else none
  | .Compare a [o] [b] _ => if isSet b then none else (match rec S a, rec S b with
    | some x, some y => some (.cmp o x y)
    | _, _ => none)
  | .Compare a [o, p] [b, c] _ => if isSet c then none else (match rec S a, rec S b, rec S c with
    | some x, some y, some z => some (.chn o p x y z)
    | _, _, _ => none)
  | .Compare a [o, p, q] [b, c, d] _ => if isSet d then none else (match rec S a, rec S b, rec S c, rec S d with
    | some x, some y, some z, some w => some (.chn3 o p q x y z w)
    | _, _, _, _ => none)
  | .Dict keys vals _ => if keys.isEmpty then (if vals.isEmpty then some (.dnew []) else none) else if keys.length ≤ 15 then (cDict (rec S) keys vals).map .dnew else none
  | .Subscript a (.Slice none none (some (.UnaryOp .USub (.Constant (.int 1) _ _) _)) _) _ => (rec S a).map .rev
  | .Subscript a (.Slice none none (some k) _) _ => match rec S a, rec S k with
    | some x, some y => some (.stp x y)
    | _, _ => none
  | .Subscript a (.Slice lo hi none _) _ => match rec S a, cO (rec S) lo, cO (rec S) hi with
    | some x, some l, some h => some (.slc x l h)
    | _, _, _ => none
  | .Subscript a b _ => if isSlc b then none else (match rec S a, rec S b with
    | some x, some y => some (.idx x y)
    | _, _ => none)
  | .Attribute o f _ => if isCall o then none else (match hotOf S o with
    | some i => (G.xfl.lookup f).map (.xfl i ·)
    | none => match G.flds.lookup f, rec S o with
      | some fs, some x => some (.fld fs x)
      | _, _ => none)
  | .Call (.Name x _) [.Call (.Name y p2) [a] [] q2] [] _ => if x = Str.ofString "sorted" ∧ y = Str.ofString "set" then (if S.calm && (glB S.sc x && (glB S.sc y && (G.bis.contains x && (G.bis.contains y && !isStar a)))) then (rec S a).map .sset else none) else cCall G rec S x [.Call (.Name y p2) [a] [] q2]
  | .Call (.Name x _) args [] _ => cCall G rec S x args
  | .Call (.Name x _) [a] [⟨some d, .Constant .none _ _, _⟩] _ => if x = Str.ofString "max" ∧ d = Str.ofString "default" then (if S.calm && glB S.sc x && G.bis.contains x && !isStar a then (rec S a).map .mxd else none) else none
  | .Call (.Attribute o m apos) args [] pos => if G.muts.contains (Str.ofString "!" ++ m) then cVcall G rec S o m apos args pos else match mthdOf G m args.length with
    | some (fs, d) => cMethD rec S fs d o apos args pos
    | none => cMeth G rec S o m apos args pos
  | .ListComp elt gs scope _ => cComp G rec S elt gs scope
  | .Lambda ps b sc _ => match S.lam with
    | some (h, x, q) => if lamB ps b sc then some (.lam h x q) else none
    | none => none
  | _ => none
end
def cE (G : Ctx) : Nat → Sc → Expr → Option ME
  | 0, _, _ => none
  | n + 1, S, e => cStep G (cE G n) S e
section
variable (G : Ctx) (n : Nat)
/-- a display that may change -/
def isDisp : Expr → Bool
  | .List .. => true | .ListComp .. => true
  | .Subscript _ (.Slice _ _ none _) _ => true
  | .BinOp _ .Add _ _ => true
  | _ => false
def lmOf (m : Str) : Option LM := if m = Str.ofString "append" then some .app else if m = Str.ofString "extend" then some .ext else if m = Str.ofString "clear" then some .clr else none
def isLst : Expr → Bool
  | .Call (.Name x _) (_ :: _) [] _ => x = Str.ofString "list"
  | _ => false
def argsOf : Expr → List Expr
  | .Call _ l _ _ => l
  | _ => []
def lmNil : LM → Bool
  | .clr => false
  | _ => true
def cMu (S : Sc) (mu : Bool) (e : Expr) : Option ME :=
  if mu && isLst e then (if glB S.sc (Str.ofString "list") && G.bis.contains (Str.ofString "list") then (cL (cE G n S) (argsOf e)).map (fun l => .mut (.bi .list l)) else none)
  else match cE G n S e with
  | some x => some (if mu && isDisp e then .mut x else x)
  | none => none
/-- a list of displays, each of which may change -/
def cMd (S : Sc) (dp mu : Bool) (e : Expr) : Option ME := match e with
  | .List es p => if dp then (match cL (cMu G n S true) es with
    | some l => if l.length ≤ 1000 then some (.lst l) else none
    | none => none) else cMu G n S mu (.List es p)
  | e => cMu G n S mu e
/-- o.m(..) of a list -/
def cLm (S : Sc) (e : Expr) : Option MS := match e with
  | .Call (.Attribute o m apos) args [] pos => match lmOf m, G.mths.lookup m with
    | some k, none => if isCall o || !(apos.endLine == pos.line) || decide (30 ≤ args.length) then none else (match cE G n S o, cL (cE G n S) args with
      | some x, some l => if args.isEmpty && lmNil k then none else some (.lm k x l)
      | _, _ => none)
    | _, _ => none
  | _ => none
end
def isStrC : Expr → Bool
  | .Constant (.str _) _ _ => true
  | _ => false
def isAttr : Expr → Bool
  | .Attribute .. => true
  | _ => false
def cAsg (G : Ctx) (n : Nat) (S : Sc) (tg a : Expr) (pos : Pos) : Option MS := match tg with
  | .Name x py => (match tgC S (locB S.sc) (.Name x py) with
    | some (.one i, _, _) => (match cMd G n S (G.muts.contains (Str.ofString "@" ++ x)) (G.muts.contains x) a with
      | some m => (match a with
        | .ListComp _ gs scope p => if lcB S.sc x && (py.line == p.line) && !(scope.names.any fun (n, k) => n == x && (k == .local || k == .cell)) then some (.set i m) else none
        | a => if isCmp a then none else some (.set i m))
      | none => none)
    | _ => none)
  | .Tuple es k p => if es.any isAttr then (match es with
    | [.Attribute o f _, .Attribute q h _] => if isTup a || isCmp a || !S.calm || isCall o || isCall q then some .never else (match G.flds.lookup f, G.flds.lookup h, cE G n S o, cE G n S q, cE G n S a with
      | some fs, some gs, some x, some y, some m => some (.fset2 fs x gs y m)
      | _, _, _, _, _ => some .never)
    | _ => some .never) else if isTup a || !S.calm then none else (match tgC S (locB S.sc) (.Tuple es k p), cE G n S a with
    | some (.many l, _, _), some m => some (.bnd l m)
    | _, _ => none)
  | .Subscript o k _ => if isSlc k || isCmp a then none else (match cE G n S o, cE G n S k, cE G n S a with
    | some x, some y, some m => some (.sub x y m)
    | _, _, _ => none)
  | .Attribute o f _ => if isCall o || isCmp a then none else (match G.flds.lookup f, cE G n S o, cMu G n S (G.muts.contains f) a with
    | some fs, some x, some m => some (.fset fs x m)
    | _, _, _ => none)
  | _ => none
/-- an except clause -/
def cHd (G : Ctx) (rec : Sc → List Stmt → Option (List MS)) (S : Sc) : ExceptHandler → Option (List (Nat × Bool) × Option Nat × List MS)
  | .ExceptHandler (some (.Name x _)) nm (b0 :: suite) _ => if glB S.sc x && !dbg x then (match G.trs.lookup x with
    | none => none
    | some cs => match nm with
      | none => (match rec { S with calm := false } (b0 :: suite) with
        | some w => some (cs, none, w)
        | none => none)
      | some n => if lcB S.sc n then (match ixOf n S.N 0 with
        | none => none
        | some i => match rec { S with calm := false, hot := some i } (b0 :: suite) with
          | some w => some (cs, some i, w)
          | none => none) else none) else none
  | _ => none
def cHds (G : Ctx) (rec : Sc → List Stmt → Option (List MS)) (S : Sc) : List ExceptHandler → Option (List (List (Nat × Bool) × Option Nat × List MS))
  | [] => some []
  | h :: r => match cHd G rec S h, cHds G rec S r with
    | some x, some l => some (x :: l)
    | _, _ => none
/-- several clauses: as one try in another -/
def foldT : MS → List (List (Nat × Bool) × Option Nat × List MS) → MS
  | m, [] => m
  | m, (cs, i, w) :: r => foldT (.try [m] cs i w) r
/-- one statement -/
def cS1 (G : Ctx) (n : Nat) (rec : Sc → List Stmt → Option (List MS)) (S : Sc) (s : Stmt) : Option MS := match s with
  | .Pass _ => some .pass
  | .Break _ => some .brk
  | .Continue _ => some .cont
  | .Expr e _ => if isStrC e then some .pass else (match cLm G n S e with
    | some m => some m
    | none => if isCmp e then none else (cE G n S e).map .expr)
  | .Return none _ => some .retN
  | .Return (some e) _ => (cMu G n S (G.muts.contains (Str.ofString "return")) e).map .ret
  | .Assign [tg] a pos => cAsg G n S tg a pos
  | .AugAssign (.Name x _) .Add a _ => if lcB S.sc x then (match ixOf x S.N 0 with
    | some i => if S.hot = some i then none else (cE G n S a).map (.aug i)
    | none => none) else none
  | .AugAssign (.Attribute o f _) .Add a _ => if isCall o then none else (match G.flds.lookup f, cE G n S o, cE G n S a with
    | some fs, some x, some m => some (.faug fs x m)
    | _, _, _ => none)
  | .If c a b _ => if okT 20 c then (match cE G n S c, rec S a, rec S b with
    | some x, some y, some z => some (.ite x y z)
    | _, _, _ => none) else none
  | .For tg it b [] _ => if S.calm then (match cI G (cE G n) S (isTup tg) it, tgC S (locB S.sc) tg, rec S b with
    | some mi, some (t, _, _), some y => some (.for t mi y)
    | _, _, _ => none) else none
  | .While c b [] _ => if okT 20 c then (match cE G n S c, rec S b with
    | some x, some y => some (.whl G.whl x y)
    | _, _ => none) else none
  | .Try body [.ExceptHandler (some (.Name x _)) nm (b0 :: suite) _] [] [] _ => if S.calm && glB S.sc x && !dbg x then (match G.trs.lookup x with
    | none => none
    | some cs => match nm with
      | none => (match rec S body, rec { S with calm := false } (b0 :: suite) with
        | some y, some w => some (.try y cs none w)
        | _, _ => none)
      | some n => if lcB S.sc n then (match ixOf n S.N 0 with
        | none => none
        | some i => match rec S body, rec { S with calm := false, hot := some i } (b0 :: suite) with
          | some y, some w => some (.try y cs (some i) w)
          | _, _ => none) else none) else none
  | .Try body (h1 :: h2 :: hs) [] [] _ => if S.calm then (match rec S body, cHd G rec S h1, cHds G rec S (h2 :: hs) with
    | some y, some (cs, i, w), some l => some (foldT (.try y cs i w) l)
    | _, _, _ => none) else none
  | .Raise (some (.Call (.Name x _) [.Constant (.str _) _ _] [] _)) none _ => (match G.rses.lookup x, G.roed.lookup x with
    | some c, _ => if S.calm && glB S.sc x && !dbg x then some (.rse c []) else none
    | none, some (c, i) => if S.calm && glB S.sc x && !dbg x then some (.rse c [.cst (.int i)]) else none
    | none, none => some .never)
  | .Raise (some (.Call (.Name x _) [.Constant (.str _) _ _, b] [] _)) none _ => (match G.roes.lookup x, cE G n S b with
    | some c, some m => if S.calm && glB S.sc x && !dbg x && !isStar b then some (.rse c [m]) else none
    | some _, none => none
    | none, _ => some .never)
  | .Raise _ _ _ => some .never
  | _ => none
def cSs (G : Ctx) : Nat → Sc → List Stmt → Option (List MS)
  | 0, _, _ => none
  | _ + 1, _, [] => some []
  | n + 1, S, s :: r => match cS1 G 40 (cSs G n) S s, cSs G n S r with
    | some x, some l => some (x :: l)
    | _, _ => none
end BV
/-! what a law's run needs: contexts, the facts as one test, the hooks -/
namespace BV
open PySem PySem.Spec L2 He PyProof.Rows
def Ctx.fn (G : Ctx) (x : Str) (n : Nat) (f : Fn) : Ctx := { G with fns := (x, n, f) :: G.fns }
def Ctx.mk' (G : Ctx) (x : Str) (c : Nat) (b : Bool) (f : Fn) : Ctx := { G with mks := (x, c, b, f) :: G.mks }
def Ctx.mth (G : Ctx) (x : Str) (fs : List (Nat × Fn)) : Ctx := { G with mths := (x, fs) :: G.mths }
def Ctx.mu (G : Ctx) (m : List Str) (n : Nat) : Ctx := { G with muts := m, whl := n }
def Ctx.roeD (G : Ctx) (x : Str) (c : Nat) (i : Int) : Ctx := { G with roed := (x, c, i) :: G.roed }
def inCls : Stmt → Nat → Stmt
  | .ClassDef (body := b) .., i => b.getD i (.Pass ⟨0, 0, 0, 0⟩)
  | s, _ => s
def topOf (P : Program) (i : Nat) : Stmt := P.main.body.getD i (.Pass ⟨0, 0, 0, 0⟩)
section
variable (K : PySem.W.Frag) (tab : List (Str × List Str))
def clsU (x : Str) : Option (V × Value) :=
  if (Fa.glo x).ok K then some (.ref (ga K x), .ref (ga K x)) else
  if (Fa.free x).ok K && decide (x ≠ "__name__") then (match bootBuiltins x with
    | some (.type s) => some (.ty s, .type s)
    | _ => none) else none
def excCB (D : Addr) : Bool := eqO (PySem.W.findIn K (.ref D) "__getattribute__") (some (some (.builtin "BaseException.__getattribute__"))) && (eqO (PySem.W.findIn K (.ref D) "__getattr__") (some none) && (decide (PySem.W.subIn K (.ref D) (.type "BaseException") = some true) &&
  (PySem.W.hasDictIn K D && (eqO (PySem.W.findIn K (.ref D) "__class__") (some (some (.builtin "object.__class__"))) && (eqO (PySem.W.specialIn K (.builtin "object.__class__") "__get__") (some (some (.builtin "getset_descriptor.__get__"))) &&
  (decide (PySem.W.takesIn K (.builtin "object.__class__") = some true) && decide (PySem.W.mroIn K D (.type "object") = some true)))))))
/-- the parts of a tuple of the module: numbers and texts -/
def constsB : List T → List Value → Bool
  | [], [] => true
  | .int i :: xs, .int j _ :: us => decide (i = j) && constsB xs us
  | .str a :: xs, .str b _ :: us => decide (a = b) && (decide (a.length ≤ 16777216) && constsB xs us)
  | _, _ => false
def tupCB (a : Addr) (xs : List T) : Bool := match K.lookup a with
  | some o => (match o.data with
    | .seq its _ => decide (o.cls = .type "tuple") && (decide (its.size ≤ 1000) && constsB xs its.toList)
    | _ => false)
  | none => false
def gB (G : Ctx) : Bool :=
  (G.flds.all fun p => p.2.all fun q => match tab[q.1]? with
    | some (n, ks) => decide (ks[q.2]? = some p.1) && (decide ks.Nodup && (decide (ks.length ≤ 900) && ((Fa.free n).ok K || ((Fa.glo n).ok K && ((Fa.cls n).ok K && (Fa.noat n p.1).ok K)))))
    | none => false) &&
  ((G.rses.all fun p => match tab[p.2]? with
    | some (n, _) => decide (n = p.1) && ((Fa.glo n).ok K && (Fa.exc n).ok K)
    | none => false) &&
  ((G.bis.all fun x => (Fa.free x).ok K) &&
  ((G.xis.all fun p => match clsU K p.1 with
    | some (_, u) => p.2.all fun q => (match tab[q.1]? with
      | some (n, _) => (Fa.free n).ok K || ((Fa.glo n).ok K && (decide (PySem.W.kitOne K (.ref (ga K n)) u = some q.2) && excCB K (ga K n)))
      | none => false)
    | none => false) &&
  ((G.xfl.all fun p => p.2.all fun c => match tab[c]? with
    | some (n, ks) => decide (ks = [p.1]) && ((Fa.free n).ok K || ((Fa.glo n).ok K && (xfB K (ga K n) && eqO (PySem.W.findIn K (.ref (ga K n)) p.1) (some none))))
    | none => false) &&
  ((G.trs.all fun p => match clsU K p.1 with
    | some (_, u) => p.2.all fun q => (match tab[q.1]? with
      | some (n, _) => (Fa.free n).ok K || ((Fa.glo n).ok K && decide (PySem.W.exmOne K (.ref (ga K n)) u = some q.2))
      | none => false)
    | none => false) &&
  ((G.csts.all fun p => match p.2 with
    | .int i => (Fa.int p.1 i).ok K
    | .str z => (Fa.str p.1 z).ok K && decide (z.length ≤ 16777216)
    | .tup xs => (Fa.glo p.1).ok K && tupCB K (ga K p.1) xs
    | _ => false) &&
  (G.hld.all fun x => (Fa.free x).ok K)))))))
end
def oclsB (K : PySem.W.Frag) (C : Addr) : Bool := match K.lookup C with
  | some ⟨.type "type", _, .cls cd, sl⟩ => (match cd.mro, sl.toList with
    | .ref C' :: bm, [_, _, _, _, some (.builtin n), _] => decide (C' = C) && (decide (n = "ValueError.__new__") && (!cd.hasDel && (cd.hasDict && PySem.HandSPX.refsVE bm)))
    | _, _ => false)
  | _ => false
def oexB (K : PySem.W.Frag) (C fI : Addr) (f : Str) : Bool :=
  oclsB K C && (eqO (PySem.W.findIn K (.ref C) "__setattr__") (some (some (.builtin "object.__setattr__"))) && (decide (PySem.W.subIn K (.ref C) (.type "BaseException") = some true) &&
    (decide (PySem.W.typeIn K (.ref C) = some (.type "type")) && (PySem.W.keepIn K (.ref C) && (eqO (PySem.W.findIn K (.ref C) f) (some none) && (eqO (PySem.W.findIn K (.ref C) "__init__") (some (some (.ref fI))) &&
      decide (PySem.W.typeIn K (.ref fI) = some (.type "function"))))))))
def hinB (K : PySem.W.Frag) (CH : Addr) : Bool :=
  eqO (PySem.W.specialIn K (.ref CH) "__getattribute__") (some (some (.builtin "type.__getattribute__"))) && (PySem.W.readsIn K CH (.type "type") &&
    (match PySem.W.findCls K (.ref CH) (.type "type") "__init__" with
    | some (.val (.builtin x)) => decide (x = "ValueError.__init__")
    | _ => false))
def roeB (K : PySem.W.Frag) (x f : Str) : Bool := (Fa.glo x).ok K && ((Fa.glo "HouseError").ok K && (oexB K (ga K x) (ma K (ga K x) "__init__") f && hinB K (ga K "HouseError")))
def asY (g : Addr → Option Obj) (n : Nat) : List Addr := asD g n ++ [cStatics]
def obsY (n : Nat) (fa : List Fa) (fn : List DefD) (ex : PySem.W.Frag → Bool) (g : Addr → Option Obj) : AlX := (obsT fa fn [] (frT g (asY g n)), ex (frT g (asY g n)))
theorem saysY {n : Nat} {fa : List Fa} {fn : List DefD} {ex : PySem.W.Frag → Bool} {w : World} {h : Heap} (e : obsY n fa fn ex h.get? = valX fn [] w) : SaysX fa fn [] [] ex w h (frT h.get? (asY h.get? n)) where
  t := congrArg Prod.fst e
  more := congrArg Prod.snd e
  hd := fun p hp => absurd hp List.not_mem_nil
  out := fun p hp => absurd hp List.not_mem_nil
  empty := fun p hp => absurd hp List.not_mem_nil
def hookY (n : Nat) (fa : List Fa) (fn : List DefD) (ex : PySem.W.Frag → Bool) : PySem.W.Hook :=
  { α := AlX
    obs := fun sh => obsY n fa fn ex sh.heap.get?
    val := fun w => valX fn [] w
    says := (hookX n fa fn [] [] ex).says
    of := fun _ _ e => ⟨_, frT_in, saysY e⟩
    keeps := (hookX n fa fn [] [] ex).keeps }
theorem obsY_eq {n : Nat} {fa : List Fa} {fn : List DefD} {ex : PySem.W.Frag → Bool} {g : Addr → Option Obj} {sh : Shared} (h : ∀ a, g a = sh.heap.get? a) : obsY n fa fn ex g = (hookY n fa fn ex).obs sh := by
  have e : g = sh.heap.get? := funext h
  subst e
  rfl
end BV
namespace K81
open PySem PySem.Spec L2 He BV PyProof.Rows
abbrev P : Program := PySem.Challenge.pw_namehouses_k81_rows_as_texts
abbrev tab : List (Str × List Str) := [("HouseError", []), ("NoShape", []), ("NoName", []), ("NoText", ["line"]), ("NoClock", []), ("NoTime", []), ("NoHolder", []), ("NoLease", []), ("Ended", []), ("TooMany", []), ("Wait", ["by"]), ("Empty", []), ("NoNote", []), ("Fallen", []), ("NoRow", []), ("Backward", ["now"]), ("Shape", ["moments", "houses", "counts"]), ("Clock", ["start", "turns"]), ("Let", ["holder", "lease", "end", "is_cut"]), ("Common", ["shape", "lets"]), ("House", ["shape", "ahead", "stride", "keeper", "lease", "mark", "given", "begun", "kept", "fallen"]), ("World", ["clocks", "shape", "ahead", "stride", "common", "notes", "houses", "given", "time"]), ("Stage", ["shape", "common", "houses", "given"]), ("Words", ["some", "at"]), ("Desk", ["world", "shape"])]
def s_is_holder : Stmt := topOf P 7
def s_text_unless_2 : Stmt := topOf P 11
def s_number_of_2 : Stmt := topOf P 12
def s_Words_init_2 : Stmt := inCls (topOf P 13) 0
def s_Words_next_word : Stmt := inCls (topOf P 13) 1
def s_Words_one_of : Stmt := inCls (topOf P 13) 2
def s_Words_next_number : Stmt := inCls (topOf P 13) 3
def s_Words_next_holder : Stmt := inCls (topOf P 13) 4
def s_Words_close_2 : Stmt := inCls (topOf P 13) 6
def s_show_part : Stmt := topOf P 17
def s_show_row : Stmt := topOf P 18
def s_house_in : Stmt := topOf P 19
def s_read_row : Stmt := topOf P 20
def s_l_begin_2 : Stmt := topOf P 23
def s_l_next_2 : Stmt := topOf P 24
def s_l_holder : Stmt := topOf P 25
def s_l_number : Stmt := topOf P 26
def s_l_row : Stmt := topOf P 27
def s_l_words : Stmt := topOf P 28
def s_l_number_of : Stmt := topOf P 29
def s_l_is_holder : Stmt := topOf P 30
def s_l_due : Stmt := topOf P 31
def s_l_changed : Stmt := topOf P 32
def s_l_told : Stmt := topOf P 33
def s_l_truths : Stmt := topOf P 34
def s_law : Stmt := topOf P 35
def s_NoText_init : Stmt := inCls (topOf P 3) 0
noncomputable def Gb0 : BV.Ctx := { flds := [("some", [(23, 0)]), ("at", [(23, 1)])], rses := [], bis := ["all", "bool", "int", "isinstance", "len", "range", "str", "tuple"], csts := [("MOST_LETTERS", .int 8), ("LETTERS", .str "abcdefghijklmnopqrstuvwxyz"), ("MOST_FIGURES", .int 40), ("FIGURES", .str "0123456789"), ("ASKING", .tup [.str "ask", .str "store", .str "take"]), ("BARE", .tup [.str "back", .str "fall", .str "bare"])], xis := [], xfl := [("line", [3])], trs := [("NoText", [(0, false), (1, false), (2, false), (3, true), (4, false), (5, false), (6, false), (7, false), (8, false), (9, false), (10, false), (11, false), (12, false), (13, false), (14, false), (15, false)])] }
noncomputable def G0 : BV.Ctx := Gb0.roeD "NoText" 3 0
def mD (a : Str × Option Str) (n q : Str) (st : Stmt) : DefD := ⟨a, n, q, defArgs st, defBody st, defScope st, [], []⟩
def fnL : List DefD := [mD ("is_holder", none) "is_holder" "is_holder" s_is_holder, mD ("text_unless", none) "text_unless" "text_unless" s_text_unless_2, mD ("number_of", none) "number_of" "number_of" s_number_of_2, mD ("Words", some "__init__") "__init__" "Words.__init__" s_Words_init_2, mD ("Words", some "next_word") "next_word" "Words.next_word" s_Words_next_word, mD ("Words", some "one_of") "one_of" "Words.one_of" s_Words_one_of, mD ("Words", some "next_number") "next_number" "Words.next_number" s_Words_next_number, mD ("Words", some "next_holder") "next_holder" "Words.next_holder" s_Words_next_holder, mD ("Words", some "close") "close" "Words.close" s_Words_close_2, mD ("show_part", none) "show_part" "show_part" s_show_part, mD ("show_row", none) "show_row" "show_row" s_show_row, mD ("house_in", none) "house_in" "house_in" s_house_in, mD ("read_row", none) "read_row" "read_row" s_read_row, mD ("_law_begin", none) "_law_begin" "_law_begin" s_l_begin_2, mD ("_law_next", none) "_law_next" "_law_next" s_l_next_2, mD ("_law_holder", none) "_law_holder" "_law_holder" s_l_holder, mD ("_law_number", none) "_law_number" "_law_number" s_l_number, mD ("_law_row", none) "_law_row" "_law_row" s_l_row, mD ("_law_words", none) "_law_words" "_law_words" s_l_words, mD ("_law_number_of", none) "_law_number_of" "_law_number_of" s_l_number_of, mD ("_law_is_holder", none) "_law_is_holder" "_law_is_holder" s_l_is_holder, mD ("_law_due", none) "_law_due" "_law_due" s_l_due, mD ("_law_changed", none) "_law_changed" "_law_changed" s_l_changed, mD ("_law_told", none) "_law_told" "_law_told" s_l_told, mD ("_law_truths", none) "_law_truths" "_law_truths" s_l_truths, mD ("law", none) "law" "law" s_law, ⟨("NoText", some "__init__"), "__init__", "NoText.__init__", defArgs s_NoText_init, defBody s_NoText_init, defScope s_NoText_init, [.int 0], []⟩]
def faL : List Fa := [.glo "is_holder", .glo "text_unless", .glo "number_of", .glo "Words", .mkr "Words", .cls "Words", .meth "Words" "next_word", .meth "Words" "one_of", .meth "Words" "next_number", .meth "Words" "next_holder", .meth "Words" "close", .glo "show_part", .glo "show_row", .glo "house_in", .glo "read_row", .glo "_law_begin", .glo "_law_next", .glo "_law_holder", .glo "_law_number", .glo "_law_row", .glo "_law_words", .glo "_law_number_of", .glo "_law_is_holder", .glo "_law_due", .glo "_law_changed", .glo "_law_told", .glo "_law_truths", .glo "law"]
noncomputable def exF (K : PySem.W.Frag) : Bool := gB K tab Gb0 && roeB K "NoText" "line"
def looseL : List Str := (["_wall", "HouseError", "NoText", "LETTERS", "MOST_LETTERS", "is_holder", "FIGURES", "MOST_FIGURES", "text_unless", "number_of", "Words", "ASKING", "BARE", "show_part", "show_row", "house_in", "read_row", "_law_cell_at", "_law_begin", "_law_next", "_law_holder", "_law_number", "_law_row", "_law_words", "_law_number_of", "_law_is_holder", "_law_due", "_law_changed", "_law_told", "_law_truths"] : List Str)
abbrev R : PySem.W.OpenRow := PySem.W.OpenLaw.row PySem.Challenge.rw_namehouses_k81_rows_as_texts
noncomputable abbrev hk : PySem.W.Hook := BV.hookY 6 faL fnL exF
noncomputable def ob (s : PySem.W.SharedT) : He.AlX := BV.obsY 6 faL fnL exF (HandSHeadRun.getT s)
theorem ob_eq (s : PySem.W.SharedT) : ob s = hk.obs s.abs := BV.obsY_eq (HandSHeadRun.getT_eq s)
theorem run (w : World) : HandSHeadRun.RunEq R (PySem.W.view R.prog [35]) hk ob 20000 looseL w := by
  intro os
  kernel_rfl
end K81
/-! operators on values -/
namespace BV
open PySem PySem.Spec L2
section
variable {S : Sg} {g : Gh} {m : Sto} {H : Hp} {Q : VK} {W : Value → Option Addr → Hp → Prop} {t : T} {v : V}
theorem PoT.now (rl : Rel S g m H) (h : PoT S g H Q W (.ok t m)) (r : rep S g H t v) : Q v H := h g H (Stp.refl g H) rl v r
/-- a new tracked object -/
theorem PoT.new {p : Addr} {o : HO} (rl : Rel S g m H) (hp : H p = none) (h : PoT S g H Q W (.ok t m)) (r : rep S g (upd H p o) t v) : Q v (upd H p o) :=
  h g (upd H p o) (Stp.ext (ext_upd hp)) (rl.ext (ext_upd hp)) v r
theorem Rel.fresh (rl : Rel S g m H) {p : Addr} (hp : H p = none) : ¬ g.A p := fun z => rl.has p z hp
theorem PoT.lst {p : Addr} {xs : List T} {vs : List V} (rl : Rel S g m H) (hp : H p = none) (h : PoT S g H Q W (.ok (.lst xs) m)) (l : xs.length ≤ 16777216) (r : reps S g H xs vs) : Q (.ref p) (upd H p (.lst vs)) :=
  h.new rl hp ⟨p, vs, rfl, rl.fresh hp, upd_same, l, reps_mono (Stp.ext (ext_upd hp)) _ _ r⟩
theorem PoT.tup {p : Addr} {xs : List T} {vs : List V} (rl : Rel S g m H) (hp : H p = none) (h : PoT S g H Q W (.ok (.tup xs) m)) (l : xs.length ≤ 16777216) (r : reps S g H xs vs) : Q (.ref p) (upd H p (.tup vs)) :=
  h.new rl hp ⟨p, vs, rfl, SqT.of upd_same, l, reps_mono (Stp.ext (ext_upd hp)) _ _ r⟩
theorem lstOf_rep (rl : Rel S g m H) : ∀ {t : T} {v : V} {xs : List T}, lstOf m t = some xs → rep S g H t v → ∃ a vs, v = .ref a ∧ H a = some (.lst vs) ∧ reps S g H xs vs ∧ xs.length ≤ 16777216
  | .lst xs, v, ys, e, h => by
    obtain ⟨a, vs, e1, na, ha, l, r⟩ := h
    obtain rfl : xs = ys := Option.some.inj e
    exact ⟨a, vs, e1, ha, r, l⟩
  | .hd n, v, ys, e, h => by
    obtain ⟨a, e1, ha⟩ := h
    simp only [lstOf] at e
    cases q : m[n]? with
    | none => rw [q] at e; cases e
    | some c =>
      rw [q] at e
      cases c with
      | lst zs =>
        obtain rfl : zs = ys := Option.some.inj e
        obtain ⟨vs, h1, h2, h3⟩ := rl.cell n a _ ha q
        exact ⟨a, vs, e1, h1, h3, h2⟩
      | ins c zs => cases e
      | dK kvs => cases e
      | tab _ _ => cases e
  | .non, _, _, e, _ => nomatch e
  | .bl _, _, _, e, _ => nomatch e
  | .int _, _, _, e, _ => nomatch e
  | .str _, _, _, e, _ => nomatch e
  | .ty _, _, _, e, _ => nomatch e
  | .tup _, _, _, e, _ => nomatch e
  | .obj _ _, _, _, e, _ => nomatch e
  | .scr _, _, _, e, _ => nomatch e
  | .exn _ _, _, _, e, _ => nomatch e
  | .fn _, _, _, e, _ => nomatch e
theorem seqOf_rep (rl : Rel S g m H) {t : T} {v : V} {xs : List T} (e : seqOf m t = some xs) (h : rep S g H t v) : ∃ a vs, v = .ref a ∧ (SqL S.K H a vs ∨ SqT S.K H a vs) ∧ reps S g H xs vs ∧ xs.length ≤ 16777216 := by
  by_cases ht : ∃ ys, t = .tup ys
  · obtain ⟨ys, rfl⟩ := ht
    obtain ⟨a, vs, e1, q, l, r⟩ := h
    obtain rfl : ys = xs := Option.some.inj e
    exact ⟨a, vs, e1, .inr q, r, l⟩
  · have e' : lstOf m t = some xs := by
      cases t <;> first | exact e | exact absurd ⟨_, rfl⟩ ht
    obtain ⟨a, vs, e1, h1, h2, h3⟩ := lstOf_rep rl e' h
    exact ⟨a, vs, e1, .inl (SqL.of h1), h2, h3⟩
/-- what an operator asks of values, from what is known of trees -/
def OpB (S : Sg) (f : T → T → Sto → Rs T) (r : R2) : Prop :=
  ∀ (g : Gh) (m : Sto) (H : Hp) (x y : T) (v u : V) (Q : VK) (W : Value → Option Addr → Hp → Prop), Rel S g m H → rep S g H x v → rep S g H y u → PoT S g H Q W (f x y m) → r v u H Q
theorem sizeL : sizeLine = 16777216 := sizeLine_eq
def rAddA (K : PySem.W.Frag) : R2 := fun x y H Q => (rI0 fun i j => .int (i + j)) x y H Q ∨ (∃ i j, x = .str i ∧ y = .str j ∧ i.length + j.length ≤ sizeLine ∧ Q (.str (i ++ j)) H) ∨ rCat x y H Q ∨ rCatA K x y H Q
theorem op_addA {X : Cx} : OpR X (binaryOp .Add) (rAddA X.K) := op_add.or (op_add_str.or (op_cat.or op_catA))
theorem add_lists (rl : Rel S g m H) {x y : T} {v u : V} {xs ys : List T} (e1 : lstOf m x = some xs) (e2 : lstOf m y = some ys) (hx : rep S g H x v) (hy : rep S g H y u)
    (p : PoT S g H Q W (if xs.length + ys.length ≤ 16777216 then .ok (.lst (xs ++ ys)) m else .bad)) : rCat v u H Q := by
  obtain ⟨a, vs, rfl, h1, h2, h3⟩ := lstOf_rep rl e1 hx
  obtain ⟨b, us, rfl, k1, k2, k3⟩ := lstOf_rep rl e2 hy
  by_cases c : xs.length + ys.length ≤ 16777216
  · rw [if_pos c] at p
    refine ⟨a, b, vs, us, rfl, rfl, h1, k1, by rw [sizeL, reps_len h2, reps_len k2]; exact c, fun q hq => ?_⟩
    exact p.lst rl hq (by rw [List.length_append]; exact c) (reps_app h2 k2)
  · rw [if_neg c] at p
    exact p.elim
theorem str_app_len (a b : Str) : (a ++ b).length = a.length + b.length := by
  show (a.cps ++ b.cps).size = a.cps.size + b.cps.size
  exact Array.size_append
theorem addT_ok (S : Sg) : OpB S addT (rAddA S.K) := by
  intro g m H x y v u Q W rl hx hy p
  have key : ∀ xs ys, lstOf m x = some xs → lstOf m y = some ys → addT x y m = (if xs.length + ys.length ≤ 16777216 then .ok (.lst (xs ++ ys)) m else .bad) → rAddA S.K v u H Q := fun xs ys e1 e2 e => by
    rw [e] at p
    exact .inr (.inr (.inl (add_lists rl e1 e2 hx hy p)))
  unfold addT at p
  split at p
  · have e1 : v = .int _ := hx
    have e2 : u = .int _ := hy
    exact .inl ⟨_, _, e1, e2, PoT.now rl p rfl⟩
  · obtain ⟨e1, l1⟩ := hx
    obtain ⟨e2, l2⟩ := hy
    split at p
    · rename_i c
      exact .inr (.inl ⟨_, _, e1, e2, by rw [sizeL]; exact c, PoT.now rl p ⟨rfl, by rw [str_app_len]; exact c⟩⟩)
    · exact p.elim
  · rename_i xs ys
    split at p
    · rename_i c
      obtain ⟨a, vs, e1, q1, l1, r1⟩ := hx
      obtain ⟨b, us, e2, q2, l2, r2⟩ := hy
      refine .inr (.inr (.inr ⟨a, b, vs, us, e1, e2, q1, q2, by rw [sizeL, reps_len r1, reps_len r2]; exact c, fun z => ?_, fun _ z => ?_, fun _ _ q hq => ?_⟩))
      · have l := reps_len r1
        rw [z] at l
        have ex := List.length_eq_zero_iff.mp l.symm
        refine PoT.now rl p ?_
        rw [ex, List.nil_append]
        exact ⟨b, us, rfl, q2, l2, r2⟩
      · have l := reps_len r2
        rw [z] at l
        have ey := List.length_eq_zero_iff.mp l.symm
        refine PoT.now rl p ?_
        rw [ey, List.append_nil]
        exact ⟨a, vs, rfl, q1, l1, r1⟩
      · exact p.tup rl hq (by rw [List.length_append]; exact c) (reps_app r1 r2)
    · exact p.elim
  · split at p
    · rename_i xs ys e1 e2
      exact .inr (.inr (.inl (add_lists rl e1 e2 hx hy p)))
    · exact p.elim
/-- two ints -/
theorem int2_ok (S : Sg) {C : Int → Int → Prop} [∀ i j, Decidable (C i j)] {f : Int → Int → Int} {C' : Int → Int → Prop} (h : ∀ i j, C i j → C' i j) :
    OpB S (fun x y m => match x, y with
      | .int i, .int j => if C i j then .ok (.int (f i j)) m else .bad
      | _, _ => .bad) (rI C' fun i j => .int (f i j)) := by
  intro g m H x y v u Q W rl hx hy p
  dsimp only at p
  split at p
  · split at p
    · rename_i c
      exact ⟨_, _, hx, hy, h _ _ c, PoT.now rl p rfl⟩
    · exact p.elim
  · exact p.elim
theorem sm_log {i : Int} (h : sm i) : i.natAbs.log2 < 1000 := PySem.Flt.log2_lt_of (by decide) h
theorem mulOk_ok {X : Cx} : OpR X (binaryOp .Mult) (rI (fun i j => CMul i j ∨ CMulW i j) fun i j => .int (i * j)) := by
  have h := (op_mul (X := X)).or op_mulW
  intro pins s σ H x y v u Q I rx ry q
  refine h pins s σ H x y v u Q I rx ry ?_
  obtain ⟨i, j, e1, e2, c | c, q⟩ := q
  · exact .inl ⟨i, j, e1, e2, c, q⟩
  · exact .inr ⟨i, j, e1, e2, c, q⟩
theorem reps_rep {xs : List T} {vs : List V} (r : reps S g H xs vs) : ∀ n : Nat, reps S g H (List.replicate n xs).flatten (List.replicate n vs).flatten
  | 0 => rfl
  | n + 1 => by
    rw [List.replicate_succ, List.replicate_succ, List.flatten_cons, List.flatten_cons]
    exact reps_app r (reps_rep r n)
theorem foldS_size (a : Array Nat) : ∀ (k : Nat) (b : Array Nat), ((List.replicate k a).foldl (· ++ ·) b).size = b.size + k * a.size
  | 0, b => by simp
  | k + 1, b => by
    rw [List.replicate_succ, List.foldl_cons, foldS_size a k, Array.size_append, Nat.add_mul]
    omega
theorem repS_len (a : Str) (k : Nat) : (repS a k).length = k * a.length := by
  show ((List.replicate k a.cps).foldl (· ++ ·) #[]).size = _
  rw [foldS_size]
  simp
  rfl
def rRepS : R2 := fun x y H Q => ∃ a k, x = .str a ∧ y = .int k ∧ 2 ≤ k ∧ k ≤ 1000 ∧ 1 ≤ a.length ∧ a.length ≤ 1000 ∧ Q (.str (repS a k.toNat)) H
theorem op_repS {X : Cx} : OpR X (binaryOp .Mult) rRepS := by
  intro pins s σ H x y v u Q I rx ry h
  obtain ⟨a, k, rfl, rfl, k0, k1, a0, a1, q⟩ := h
  obtain ⟨t, rfl⟩ := rx
  obtain ⟨t', rfl⟩ := ry
  have n1 : ¬ k < 1 := by omega
  have n2 : (k == 1 || a.length == 0) = false := by
    rw [Bool.or_eq_false_iff]
    exact ⟨by simp; omega, by simp; omega⟩
  have hl : a.length * k.toNat ≤ 1000 * 1000 := Nat.mul_le_mul a1 (by omega)
  refine PySem.P.mul_str ?_ (fun _ _ => ?_) (fun _ _ => ?_) ?_
  · rw [decide_eq_false (show ¬ k < -(2 ^ 63 : Int) by omega), decide_eq_false (show ¬ k ≥ 2 ^ 63 by omega)]
    rfl
  · have h1 : (2 ^ 63 - 1 : Int) / 1000 ≤ (2 ^ 63 - 1) / k := by
      refine Int.le_ediv_of_mul_le (by omega) ?_
      have : (2 ^ 63 - 1 : Int) / 1000 * k ≤ (2 ^ 63 - 1 : Int) / 1000 * 1000 := Int.mul_le_mul_of_nonneg_left k1 (by decide)
      have h3 : (2 ^ 63 - 1 : Int) / 1000 * 1000 ≤ 2 ^ 63 - 1 := by decide
      omega
    have h2 : (1000 : Int) ≤ (2 ^ 63 - 1 : Int) / 1000 := by decide
    omega
  · unfold Builtin.Str.tooLong
    rw [decide_eq_false_iff_not, sizeLine_eq]
    omega
  · rw [if_neg n1, if_neg (by rw [n2]; simp)]
    refine ⟨?_, ?_⟩
    · have := repS_len a k.toNat
      show (repS a k.toNat).length ≤ sizeLine
      rw [sizeLine_eq, this, Nat.mul_comm]
      omega
    · exact ⟨.str (repS a k.toNat), H, I.tok _, ⟨_, rfl⟩, q⟩
theorem mulT_ok (S : Sg) : OpB S (binT .Mult) (fun x y H Q => ((rI (fun i j => CMul i j ∨ CMulW i j) fun i j => .int (i * j)) x y H Q ∨ rRep x y H Q) ∨ rRepS x y H Q) := by
  intro g m H x y v u Q W rl hx hy p
  dsimp only [binT] at p
  split at p
  · split at p
    · rename_i c
      refine .inl (.inl ⟨_, _, hx, hy, ?_, PoT.now rl p rfl⟩)
      rcases c with c | c | ⟨c, d⟩
      · exact .inl (.inl c)
      · exact .inl (.inr c)
      · exact .inr (by have := sm_log c; have := sm_log d; show _ + _ < _; omega)
    · exact p.elim
  · split at p
    · rename_i c
      obtain ⟨rfl, _⟩ := hx
      obtain rfl : u = .int _ := hy
      refine .inr ⟨_, _, rfl, rfl, c.1, c.2.1, c.2.2.1, c.2.2.2, PoT.now rl p ⟨rfl, ?_⟩⟩
      rw [repS_len]
      refine Nat.le_trans (Nat.mul_le_mul (show _ ≤ 1000 from ?_) c.2.2.2) (by decide)
      have := c.2.1
      omega
    · exact p.elim
  · rename_i k _ _
    unfold repT at p
    split at p
    · rename_i xs e1
      split at p
      · rename_i c
        obtain ⟨a, vs, rfl, h1, h2, h3⟩ := lstOf_rep rl e1 hx
        obtain rfl : u = .int k := hy
        have l1 := reps_len h2
        have l2 : xs.length * k.toNat ≤ 1000 * 1000 := Nat.mul_le_mul c.2.2 (by omega)
        have l3 : (List.replicate k.toNat xs).flatten.length ≤ 16777216 := by
          simp only [List.length_flatten, List.map_replicate, List.sum_replicate_nat]
          rw [Nat.mul_comm]
          omega
        refine .inl (.inr ⟨a, k, vs, rfl, rfl, h1, by omega, by omega, by rw [sizeL, l1]; omega, fun q hq => ?_⟩)
        exact p.lst rl hq l3 (reps_rep h2 _)
      · exact p.elim
    · exact p.elim
  · exact p.elim
theorem subT_ok (S : Sg) : OpB S (binT .Sub) (rI0 fun i j => .int (i - j)) := by
  intro g m H x y v u Q W rl hx hy p
  dsimp only [binT] at p
  split at p
  · exact ⟨_, _, hx, hy, PoT.now rl p rfl⟩
  · exact p.elim
theorem divT_ok (S : Sg) : OpB S (binT .FloorDiv) (rI CDivW fun i j => .int (i / j)) :=
  int2_ok S (C := fun _ j => divOk j) (f := fun i j => i / j) fun i j c => ⟨c.1, by have := sm_log c.2; omega⟩
theorem modT_ok (S : Sg) : OpB S (binT .Mod) (rI (fun _ j => 0 < j) fun i j => .int (i % j)) :=
  int2_ok S (C := fun _ j => 0 < j) (f := fun i j => i % j) fun i j c => c
theorem powT_ok (S : Sg) : OpB S (binT .Pow) (rI CPow fun i j => .int (i ^ j.toNat)) :=
  int2_ok S (C := powOk) (f := fun i j => i ^ j.toNat) fun i j c => c
theorem shrT_ok (S : Sg) : OpB S (binT .RShift) (rI (fun _ j => 0 ≤ j) fun i j => .int (i / 2 ^ j.toNat)) :=
  int2_ok S (C := fun _ j => 0 ≤ j) (f := fun i j => i / 2 ^ j.toNat) fun i j c => c
theorem andT_ok (S : Sg) : OpB S (binT .BitAnd) (rI0 fun i j => .int (Builtin.bitAnd i j)) := by
  intro g m H x y v u Q W rl hx hy p
  dsimp only [binT] at p
  split at p
  · exact ⟨_, _, hx, hy, PoT.now rl p rfl⟩
  · exact p.elim
/-- the operator's rule, all of them -/
theorem bin_ok {X : Cx} (S : Sg) (e : S.K = X.K) (o : Operator) : (∃ r, OpR X (binaryOp o) r ∧ OpB S (binT o) r) := by
  cases o
  case Add => exact ⟨_, op_addA, by rw [← e]; exact addT_ok S⟩
  case Sub => exact ⟨_, op_sub, subT_ok S⟩
  case Mult => exact ⟨_, (mulOk_ok.or op_rep).or op_repS, mulT_ok S⟩
  case FloorDiv => exact ⟨_, op_fdivW, divT_ok S⟩
  case Mod => exact ⟨_, op_mod, modT_ok S⟩
  case Pow => exact ⟨_, op_pow, powT_ok S⟩
  case RShift => exact ⟨_, op_shr, shrT_ok S⟩
  case BitAnd => exact ⟨_, op_and, andT_ok S⟩
  all_goals exact ⟨fun _ _ _ _ => False, fun _ _ _ _ _ _ _ _ _ _ _ _ h => h.elim, fun _ _ _ _ _ _ _ _ _ _ _ _ p => p.elim⟩
end
end BV
/-! comparisons, items, slices, kinds -/
namespace BV
open PySem PySem.Spec L2
section
variable {S : Sg} {g : Gh} {m : Sto} {H : Hp} {Q : VK} {W : Value → Option Addr → Hp → Prop} {t : T} {v : V}
mutual
theorem pd_dp : ∀ (t : T) (v : V) (d : PyData), pd t = some d → rep S g H t v → Dp S.K H v d
  | .non, v, d, e, h => by
    obtain rfl : PyData.none = d := Option.some.inj e
    obtain rfl : v = .non := h
    exact .non
  | .bl b, v, d, e, h => by
    obtain rfl : PyData.bool b = d := Option.some.inj e
    obtain rfl : v = .bl b := h
    exact .bl b
  | .int b, v, d, e, h => by
    obtain rfl : PyData.int b = d := Option.some.inj e
    obtain rfl : v = .int b := h
    exact .int b
  | .str b, v, d, e, h => by
    obtain rfl : PyData.str b = d := Option.some.inj e
    obtain ⟨rfl, _⟩ := h
    exact .str b
  | .lst xs, v, d, e, h => by
    obtain ⟨a, vs, rfl, na, ha, l, r⟩ := h
    have e' : (pds xs).map PyData.list = some d := e
    cases q : pds xs with
    | none => rw [q] at e'; cases e'
    | some ds =>
      rw [q] at e'
      obtain rfl : PyData.list ds = d := Option.some.inj e'
      exact .lst (SqL.of ha) (pds_dp xs vs ds q r)
  | .tup xs, v, d, e, h => by
    obtain ⟨a, vs, rfl, ha, l, r⟩ := h
    have e' : (pds xs).map PyData.tuple = some d := e
    cases q : pds xs with
    | none => rw [q] at e'; cases e'
    | some ds =>
      rw [q] at e'
      obtain rfl : PyData.tuple ds = d := Option.some.inj e'
      exact .tup ha (pds_dp xs vs ds q r)
  | .ty _, _, _, e, _ => nomatch e
  | .obj _ _, _, _, e, _ => nomatch e
  | .hd _, _, _, e, _ => nomatch e
  | .scr _, _, _, e, _ => nomatch e
  | .exn _ _, _, _, e, _ => nomatch e
  | .fn _, _, _, e, _ => nomatch e
theorem pds_dp : ∀ (xs : List T) (vs : List V) (ds : List PyData), pds xs = some ds → reps S g H xs vs → DpAll S.K H vs ds
  | [], vs, ds, e, h => by
    obtain rfl : [] = ds := Option.some.inj e
    obtain rfl : vs = [] := h
    exact .nil
  | x :: xs, _, ds, e, h => by
    obtain ⟨v, r, rfl, h1, h2⟩ := h
    simp only [pds] at e
    cases q1 : pd x with
    | none => rw [q1] at e; cases e
    | some d =>
      cases q2 : pds xs with
      | none => rw [q1, q2] at e; cases e
      | some es =>
        rw [q1, q2] at e
        obtain rfl : d :: es = ds := Option.some.inj e
        exact .cons (pd_dp x v d q1 h1) (pds_dp xs r es q2 h2)
end
/-- a list at a handle is read as data -/
theorem rdL_dp (rl : Rel S g m H) {d : PyData} (e : pd (rdL m t) = some d) (h : rep S g H t v) : Dp S.K H v d := by
  by_cases q : ∃ n xs, t = .hd n ∧ m[n]? = some (.lst xs)
  · obtain ⟨n, xs, rfl, hn⟩ := q
    obtain ⟨a, rfl, ha⟩ := h
    obtain ⟨vs, h1, h2, h3⟩ := rl.cell n a _ ha hn
    have e1 : rdL m (.hd n) = .lst xs := by simp only [rdL]; rw [hn]
    rw [e1] at e
    have e' : (pds xs).map PyData.list = some d := e
    cases q : pds xs with
    | none => rw [q] at e'; cases e'
    | some ds =>
      rw [q] at e'
      obtain rfl : PyData.list ds = d := Option.some.inj e'
      exact .lst (SqL.of h1) (pds_dp xs vs ds q h3)
  · have e1 : rdL m t = t := by
      unfold rdL
      split
      · rename_i n
        split
        · rename_i xs hn
          exact absurd ⟨n, xs, rfl, hn⟩ q
        · rfl
      · rfl
    rw [e1] at e
    exact pd_dp t v d e h
theorem rdL_flat {u : T} (e : rdL m t = u) (f : flatT u = true) : t = u := by
  unfold rdL at e
  split at e
  · split at e
    · subst e; cases f
    · exact e
  · exact e
def OpC (S : Sg) (f : T → T → Sto → Option Bool) (r : R2) : Prop :=
  ∀ (g : Gh) (m : Sto) (H : Hp) (x y : T) (v u : V) (Q : VK) (b : Bool), Rel S g m H → rep S g H x v → rep S g H y u → f x y m = some b → Q (.bl b) H → r v u H Q
theorem OpC.b {o : CmpOp} {r : R2} (h : OpC S (cmpB o) r) : OpB S (cmpT o) r := by
  intro g m H x y v u Q W rl hx hy p
  unfold cmpT at p
  split at p
  · rename_i b e
    exact h g m H x y v u Q b rl hx hy e (PoT.now rl p rfl)
  · exact p.elim
theorem dec_bl' (a b : Bool) : decide (V.bl a = V.bl b) = decide (a = b) := by
  by_cases h : a = b
  · subst h; simp
  · rw [decide_eq_false h, decide_eq_false]; exact fun q => h (V.bl.inj q)
theorem eqC_ok (neg : Bool) : OpC S (fun x y m => (eqC (rdL m x) (rdL m y)).map fun b => if neg then !b else b)
    (if neg then (fun x y H Q => rNe x y H Q ∨ rNeD S.K x y H Q) else fun x y H Q => rEq x y H Q ∨ rEqD S.K x y H Q) := by
  intro g m H x y v u Q b rl hx hy e q
  dsimp only at e
  cases z : eqC (rdL m x) (rdL m y) with
  | none => rw [z] at e; cases e
  | some c =>
    rw [z] at e
    obtain rfl : (if neg then !c else c) = b := Option.some.inj e
    have fin : (scal v u = true ∧ decide (v = u) = c) ∨ (∃ d e, Dp S.K H v d ∧ Dp S.K H u e ∧ SeqAt.shaped d = true ∧ SeqAt.shaped e = true ∧ PyData.eqv d e = c) := by
      unfold eqC at z
      split at z
      · rename_i i j e1 e2
        obtain rfl := rdL_flat e1 rfl
        obtain rfl := rdL_flat e2 rfl
        obtain rfl : v = .int i := hx
        obtain rfl : u = .int j := hy
        refine .inl ⟨rfl, ?_⟩
        rw [dec_int, Bool.beq_eq_decide_eq]
        exact Option.some.inj z
      · rename_i i j e1 e2
        obtain rfl := rdL_flat e1 rfl
        obtain rfl := rdL_flat e2 rfl
        obtain ⟨rfl, _⟩ := hx
        obtain ⟨rfl, _⟩ := hy
        refine .inl ⟨rfl, ?_⟩
        rw [dec_str]
        exact Option.some.inj z
      · rename_i i j e1 e2
        obtain rfl := rdL_flat e1 rfl
        obtain rfl := rdL_flat e2 rfl
        obtain rfl : v = .bl i := hx
        obtain rfl : u = .bl j := hy
        refine .inl ⟨rfl, ?_⟩
        rw [dec_bl']
        exact Option.some.inj z
      · unfold eqT at z
        split at z
        · rename_i d e e1 e2
          split at z
          · rename_i c2
            rw [Bool.and_eq_true] at c2
            exact .inr ⟨d, e, rdL_dp rl e1 hx, rdL_dp rl e2 hy, c2.1, c2.2, Option.some.inj z⟩
          · cases z
        · cases z
    rcases fin with ⟨h1, h2⟩ | ⟨d, d2, h1, h2, h3, h4, h5⟩
    · cases neg
      · exact .inl ⟨h1, by rw [h2]; exact q⟩
      · exact .inl ⟨h1, by rw [h2]; exact q⟩
    · cases neg
      · exact .inr ⟨d, d2, h1, h2, h3, h4, by rw [h5]; exact q⟩
      · exact .inr ⟨d, d2, h1, h2, h3, h4, by rw [h5]; exact q⟩
theorem isT_ok (neg : Bool) : OpC S (fun x y _ => (isT x y).map fun b => if neg then !b else b)
    (if neg then (fun x y H Q => (y = .non ∧ Q (.bl (!decide (x = .non))) H) ∨ (∃ a b, x = .bl a ∧ y = .bl b ∧ Q (.bl (!decide (a = b))) H))
      else fun x y H Q => (y = .non ∧ Q (.bl (decide (x = .non))) H) ∨ (∃ a b, x = .bl a ∧ y = .bl b ∧ Q (.bl (decide (a = b))) H)) := by
  intro g m H x y v u Q b rl hx hy e q
  dsimp only at e
  cases z : isT x y with
  | none => rw [z] at e; cases e
  | some c =>
    rw [z] at e
    obtain rfl : (if neg then !c else c) = b := Option.some.inj e
    have fin : (u = .non ∧ decide (v = .non) = c) ∨ (∃ a b, v = .bl a ∧ u = .bl b ∧ decide (a = b) = c) := by
      unfold isT at z
      split at z
      · refine .inl ⟨hy, ?_⟩
        have no : ∀ w : V, v = w → w ≠ .non → decide (v = V.non) = false := fun w e n => decide_eq_false (by rw [e]; exact n)
        split at z <;> cases z
        · exact decide_eq_true hx
        · obtain ⟨a, e, _⟩ := hx; exact no _ e (fun z => nomatch z)
        · exact no _ hx (fun z => nomatch z)
        · exact no _ hx (fun z => nomatch z)
        · exact no _ hx.1 (fun z => nomatch z)
        · obtain ⟨a, _, e, _⟩ := hx; exact no _ e (fun z => nomatch z)
        · obtain ⟨a, _, e, _⟩ := hx; exact no _ e (fun z => nomatch z)
        · obtain ⟨a, _, _, _, _, _, e, _⟩ := hx; exact no _ e (fun z => nomatch z)
      · split at z
        · exact .inr ⟨_, _, hx, hy, Option.some.inj z⟩
        · cases z
      · cases z
    rcases fin with ⟨h1, h2⟩ | ⟨a, b, h1, h2, h3⟩
    · cases neg
      · exact .inl ⟨h1, by rw [h2]; exact q⟩
      · exact .inl ⟨h1, by rw [h2]; exact q⟩
    · cases neg
      · exact .inr ⟨a, b, h1, h2, by rw [h3]; exact q⟩
      · exact .inr ⟨a, b, h1, h2, by rw [h3]; exact q⟩
theorem flat_rep (f : flatT t = true) (h : rep S g H t v) : flatV v = true := by
  cases t with
  | non => obtain rfl : v = .non := h; rfl
  | bl b => obtain rfl : v = .bl b := h; rfl
  | int b => obtain rfl : v = .int b := h; rfl
  | str b => obtain ⟨rfl, _⟩ := h; rfl
  | _ => cases f
theorem flats_rep : ∀ {xs : List T} {vs : List V}, xs.all flatT = true → reps S g H xs vs → vs.all flatV = true
  | [], _, _, h => by
    have e : _ = [] := h
    subst e; rfl
  | x :: xs, _, f, h => by
    obtain ⟨v, r, rfl, h1, h2⟩ := h
    rw [List.all_cons, Bool.and_eq_true] at f ⊢
    exact ⟨flat_rep f.1 h1, flats_rep f.2 h2⟩
theorem eqF_rep {x y : T} {v u : V} (fx : flatT x = true) (fy : flatT y = true) (hx : rep S g H x v) (hy : rep S g H y u) : eqV u v = eqF y x := by
  cases x <;> cases y <;> first | exact (Bool.false_ne_true fx).elim | exact (Bool.false_ne_true fy).elim | skip
  all_goals first
    | (obtain rfl : v = _ := hx; obtain rfl : u = _ := hy; simp [eqV, eqF, Bool.beq_eq_decide_eq]; done)
    | (obtain ⟨rfl, _⟩ := hx; obtain rfl : u = _ := hy; simp [eqV, eqF, Bool.beq_eq_decide_eq]; done)
    | (obtain rfl : v = _ := hx; obtain ⟨rfl, _⟩ := hy; simp [eqV, eqF, Bool.beq_eq_decide_eq]; done)
    | (obtain ⟨rfl, _⟩ := hx; obtain ⟨rfl, _⟩ := hy; simp [eqV, eqF, Bool.beq_eq_decide_eq]; done)
theorem inF_rep {x : T} {v : V} (fx : flatT x = true) (hx : rep S g H x v) : ∀ {xs : List T} {vs : List V}, xs.all flatT = true → reps S g H xs vs → inV v vs = xs.any fun y => eqF y x
  | [], _, _, h => by
    have e : _ = [] := h
    subst e; rfl
  | y :: xs, _, f, h => by
    obtain ⟨u, r, rfl, h1, h2⟩ := h
    rw [List.all_cons, Bool.and_eq_true] at f
    have ih := inF_rep fx hx f.2 h2
    unfold inV at ih ⊢
    rw [List.any_cons, List.any_cons, eqF_rep fx f.1 hx h1, ih]
/-! dicts at handles -/
theorem key_rep {x : T} {v : V} {k : L2.Key} (e : keyT x = some k) (h : rep S g H x v) : v = kV k := by
  cases x with
  | int i =>
    obtain rfl := Option.some.inj e
    exact h
  | str i =>
    obtain rfl := Option.some.inj e
    exact h.1
  | _ => cases e
theorem dget_rel {k : L2.Key} : ∀ {kvs : List (L2.Key × T)} {us : List (L2.Key × V)}, us.map (·.1) = kvs.map (·.1) → reps S g H (kvs.map (·.2)) (us.map (·.2)) → (dgetT kvs k = none ∧ valV us k = none) ∨ ∃ t v, dgetT kvs k = some t ∧ valV us k = some v ∧ rep S g H t v
  | [], [], _, _ => .inl ⟨rfl, rfl⟩
  | [], _ :: _, h, _ => nomatch h
  | _ :: _, [], h, _ => nomatch h
  | (k1, t) :: kvs, (k2, w) :: us, h, r => by
    simp only [List.map_cons] at h r
    obtain ⟨e1, e2⟩ := List.cons.inj h
    obtain ⟨v, l, e3, r1, r2⟩ := r
    obtain ⟨e4, e5⟩ := List.cons.inj e3
    have e1 : k2 = k1 := e1
    subst e1
    have e4 : w = v := e4
    subst e4
    subst e5
    by_cases c : k2 = k
    · refine .inr ⟨t, w, ?_, ?_, r1⟩
      · simp [dgetT, List.find?_cons, c]
      · rw [valV_pos (p := (k2, w)) c]
    · rcases dget_rel e2 r2 with ⟨i1, i2⟩ | ⟨t', v', i1, i2, i3⟩
      · refine .inl ⟨?_, ?_⟩
        · unfold dgetT at i1 ⊢
          rw [List.find?_cons_of_neg (by simpa using c)]
          exact i1
        · rw [valV_neg (p := (k2, w)) c]
          exact i2
      · refine .inr ⟨t', v', ?_, ?_, i3⟩
        · unfold dgetT at i1 ⊢
          rw [List.find?_cons_of_neg (by simpa using c)]
          exact i1
        · rw [valV_neg (p := (k2, w)) c]
          exact i2
theorem dicOf_rep (rl : Rel S g m H) {t : T} {v : V} {kvs : List (L2.Key × T)} (e : dicOf m t = some kvs) (h : rep S g H t v) : ∃ n a us, t = .hd n ∧ g.ph[n]? = some a ∧ m[n]? = some (.dK kvs) ∧ v = .ref a ∧ H a = some (.dK us) ∧ kvs.length ≤ 16777216 ∧ us.map (·.1) = kvs.map (·.1) ∧ reps S g H (kvs.map (·.2)) (us.map (·.2)) := by
  unfold dicOf at e
  split at e
  · rename_i n
    split at e
    · rename_i kvs' hn
      obtain rfl := Option.some.inj e
      obtain ⟨a, rfl, ha⟩ := h
      obtain ⟨us, h1, h2, h3, h4⟩ := rl.cell n a _ ha hn
      exact ⟨n, a, us, rfl, ha, hn, rfl, h1, h2, h3, h4⟩
    · cases e
  · cases e
def rDIn (neg : Bool) : R2 := fun x y H Q => ∃ a o, y = .ref a ∧ DGet H a x o ∧ Q (.bl (if neg then !o.isSome else o.isSome)) H
theorem op_din {X : Cx} (hu : X.A.units + 1 < cLine) : OpR X (compareOp .In) (rDIn false) := by
  intro pins s σ H x y v u Q I rx ry ⟨a, o, ey, g, q⟩
  subst ey
  cases (show u = Value.ref a from ry)
  exact d_in hu I g rx fun s' J => ⟨.bl o.isSome, H, J, rfl, q⟩
theorem op_dnotin {X : Cx} (hu : X.A.units + 1 < cLine) : OpR X (compareOp .NotIn) (rDIn true) := by
  intro pins s σ H x y v u Q I rx ry ⟨a, o, ey, g, q⟩
  subst ey
  cases (show u = Value.ref a from ry)
  exact d_notIn hu I g rx fun s' J => ⟨.bl (!o.isSome), H, J, rfl, q⟩
def rInA (K : PySem.W.Frag) (neg : Bool) : R2 := fun x y H Q => (rIn K neg x y H Q ∨ rDIn neg x y H Q ∨ (∃ (c : Nat) (z : Str), x = .str ⟨#[c]⟩ ∧ y = .str z ∧ Q (.bl (if neg then !decide (c ∈ z.cps.toList) else decide (c ∈ z.cps.toList))) H)) ∨ (if neg then rNotInD K x y H Q else rInD K x y H Q)
theorem inT_ok (neg : Bool) : OpC S (fun x y m => (inT x y m).map fun b => if neg then !b else b) (rInA S.K neg) := by
  intro g m H x y v u Q b rl hx hy e q
  dsimp only at e
  cases z : inT x y m with
  | none => rw [z] at e; cases e
  | some c =>
    rw [z] at e
    obtain rfl : (if neg then !c else c) = b := Option.some.inj e
    unfold inT at z
    split at z
    · rename_i b
      split at z
      · rename_i a
        unfold inS at z
        split at z
        · rename_i k hk
          obtain ⟨rfl, _⟩ := hx
          obtain ⟨rfl, _⟩ := hy
          have ea : a = ⟨#[k]⟩ := by
            obtain ⟨cs⟩ := a
            have : cs = #[k] := Array.toList_inj.mp hk
            rw [this]
          refine .inl (.inr (.inr ⟨k, b, by rw [ea], rfl, ?_⟩))
          rw [Option.some.inj z]
          exact q
        · cases z
      · cases z
    · rename_i y' hns
      split at z
      · rename_i ys hs
        split at z
        · rename_i b0 z0
          obtain rfl := Option.some.inj z
          have z := z0
          unfold inF at z
          split at z
          · rename_i f
            rw [Bool.and_eq_true] at f
            obtain ⟨a, us, rfl, k, r, l⟩ := seqOf_rep rl hs hy
            refine .inl (.inl ⟨a, us, rfl, k, flat_rep f.1 hx, flats_rep f.2 r, ?_⟩)
            rw [inF_rep f.1 hx f.2 r, Option.some.inj z]
            exact q
          · cases z
        · unfold inD at z
          split at z
          · rename_i d ds e1 e2
            split at z
            · rename_i c2
              rw [Bool.and_eq_true] at c2
              have h1 : Dp S.K H v d := rdL_dp rl (by
                have : rdL m x = x := by
                  unfold rdL
                  split
                  · cases e1
                  · rfl
                rw [this]
                exact e1) hx
              have h2 := rdL_dp rl e2 hy
              rw [← Option.some.inj z] at q
              cases neg
              · exact .inr ⟨d, ds, h1, h2, c2.1, c2.2, q⟩
              · exact .inr ⟨d, ds, h1, h2, c2.1, c2.2, q⟩
            · cases z
          · cases z
      · split at z
        · rename_i kvs k ed ek
          obtain ⟨n, a, us, rfl, hp, hn, rfl, h1, h2, h3, h4⟩ := dicOf_rep rl ed hy
          obtain rfl := key_rep ek hx
          refine .inl (.inr (.inl ⟨a, _, rfl, DGet.k h1, ?_⟩))
          have e1 : (valV us k).isSome = c := by
            rw [← Option.some.inj z]
            rcases dget_rel (k := k) h3 h4 with ⟨i1, i2⟩ | ⟨t, v, i1, i2, _⟩ <;> rw [i1, i2] <;> rfl
          rw [e1]
          exact q
        · cases z
theorem ints_rep : ∀ {xs : List T} {ns : List Int} {vs : List V}, intsOf xs = some ns → reps S g H xs vs → vs = ns.map .int
  | [], ns, _, e, h => by
    obtain rfl : [] = ns := Option.some.inj e
    exact h
  | .int i :: xs, ns, _, e, h => by
    simp only [intsOf] at e
    cases z : intsOf xs with
    | none => rw [z] at e; cases e
    | some ms =>
      rw [z] at e
      obtain rfl : i :: ms = ns := Option.some.inj e
      obtain ⟨v, r, rfl, h1, h2⟩ := h
      obtain rfl : v = .int i := h1
      rw [ints_rep z h2]
      rfl
  | .non :: _, _, _, e, _ => nomatch e
  | .bl _ :: _, _, _, e, _ => nomatch e
  | .str _ :: _, _, _, e, _ => nomatch e
  | .ty _ :: _, _, _, e, _ => nomatch e
  | .lst _ :: _, _, _, e, _ => nomatch e
  | .tup _ :: _, _, _, e, _ => nomatch e
  | .obj _ _ :: _, _, _, e, _ => nomatch e
  | .hd _ :: _, _, _, e, _ => nomatch e
  | .scr _ :: _, _, _, e, _ => nomatch e
  | .exn _ _ :: _, _, _, e, _ => nomatch e
  | .fn _ :: _, _, _, e, _ => nomatch e
def rLtA (K : PySem.W.Frag) : R2 := fun x y H Q => (rI0 fun i j => .bl (decide (i < j))) x y H Q ∨ (∃ i j, x = .str i ∧ y = .str j ∧ Q (.bl (decide (i.cps.toList < j.cps.toList))) H) ∨ rLtT K x y H Q
theorem ltT_ok : OpC S (fun x y _ => ltT x y) (rLtA S.K) := by
  intro g m H x y v u Q b rl hx hy e q
  dsimp only at e
  unfold ltT at e
  split at e
  · obtain rfl := Option.some.inj e
    exact .inl ⟨_, _, hx, hy, q⟩
  · obtain rfl := Option.some.inj e
    exact .inr (.inl ⟨_, _, hx.1, hy.1, q⟩)
  · split at e
    · rename_i xs ys ns ms e1 e2
      obtain rfl := Option.some.inj e
      obtain ⟨a, vs, rfl, q1, l1, r1⟩ := hx
      obtain ⟨b, us, rfl, q2, l2, r2⟩ := hy
      rw [ints_rep e1 r1] at q1
      rw [ints_rep e2 r2] at q2
      exact .inr (.inr ⟨a, b, ns, ms, rfl, rfl, q1, q2, q⟩)
    · cases e
  · cases e
theorem leT_ok : OpC S (fun x y _ => leT x y) (fun x y H Q => (rI0 fun i j => .bl (decide (i ≤ j))) x y H Q ∨ rLeT S.K x y H Q) := by
  intro g m H x y v u Q b rl hx hy e q
  dsimp only at e
  unfold leT at e
  split at e
  · obtain rfl := Option.some.inj e
    exact .inl ⟨_, _, hx, hy, q⟩
  · split at e
    · rename_i xs ys ns ms e1 e2
      obtain rfl := Option.some.inj e
      obtain ⟨a, vs, rfl, q1, l1, r1⟩ := hx
      obtain ⟨b, us, rfl, q2, l2, r2⟩ := hy
      rw [ints_rep e1 r1] at q1
      rw [ints_rep e2 r2] at q2
      exact .inr ⟨a, b, ns, ms, rfl, rfl, q1, q2, q⟩
    · cases e
  · cases e
theorem intC_ok {f : T → T → Sto → Option Bool} {p : Int → Int → Bool} (h : ∀ x y m b, f x y m = some b → ∃ i j, x = .int i ∧ y = .int j ∧ b = p i j) : OpC S f (rI0 fun i j => .bl (p i j)) := by
  intro g m H x y v u Q b rl hx hy e q
  obtain ⟨i, j, rfl, rfl, rfl⟩ := h x y m b e
  exact ⟨i, j, hx, hy, q⟩
theorem cmp_ok {X : Cx} (S : Sg) (e : S.K = X.K) (hu : X.A.units + 65 < cLine) (o : CmpOp) : ∃ r, OpR X (compareOp o) r ∧ OpB S (cmpT o) r := by
  cases o
  case Eq => exact ⟨_, op_eq.or (op_eqD (by omega)), by rw [← e]; exact (OpC.b (by
    have h := eqC_ok (S := S) false
    intro g m H x y v u Q b rl hx hy e q
    exact h g m H x y v u Q b rl hx hy (by
      have e' : eqC (rdL m x) (rdL m y) = some b := e
      dsimp only
      rw [e']; rfl) q))⟩
  case NotEq => exact ⟨_, op_ne.or (op_neD (by omega)), by rw [← e]; exact (OpC.b (eqC_ok (S := S) true))⟩
  case Lt => exact ⟨_, op_lt.or (op_lt_str.or (op_ltT (by omega))), by rw [← e]; exact OpC.b ltT_ok⟩
  case LtE => exact ⟨_, op_le.or (op_leT (by omega)), by rw [← e]; exact OpC.b leT_ok⟩
  case Gt => exact ⟨_, op_gt, OpC.b (intC_ok fun x y m b h => by
    dsimp only [cmpB] at h
    split at h
    · exact ⟨_, _, rfl, rfl, (Option.some.inj h).symm⟩
    · cases h)⟩
  case GtE => exact ⟨_, op_ge, OpC.b (intC_ok fun x y m b h => by
    dsimp only [cmpB] at h
    split at h
    · exact ⟨_, _, rfl, rfl, (Option.some.inj h).symm⟩
    · cases h)⟩
  case Is => exact ⟨_, op_isN.or op_is_bl, OpC.b (by
    have h := isT_ok (S := S) false
    intro g m H x y v u Q b rl hx hy e q
    exact h g m H x y v u Q b rl hx hy (by
      have e' : isT x y = some b := e
      dsimp only
      rw [e']; rfl) q)⟩
  case IsNot => exact ⟨_, op_notN.or op_isnot_bl, OpC.b (isT_ok (S := S) true)⟩
  case In => exact ⟨_, (op_in_seq.or ((op_din (by omega)).or op_in_sign)).or (op_inD hu), by rw [← e]; exact (OpC.b (by
    have h := inT_ok (S := S) false
    intro g m H x y v u Q b rl hx hy e q
    exact h g m H x y v u Q b rl hx hy (by
      have e' : inT x y m = some b := e
      dsimp only
      rw [e']; rfl) q))⟩
  case NotIn => exact ⟨_, (op_notIn_seq.or ((op_dnotin (by omega)).or op_notIn_sign)).or (op_notInD hu), by rw [← e]; exact (OpC.b (inT_ok (S := S) true))⟩
end
end BV
/-! max of a list: ints, tuples of ints -/
namespace BV
open PySem PySem.Spec L2 PyProof.Rows
section
variable {X : Cx}
def rMx (K : PySem.W.Frag) : List V → Hp → VK → Prop := fun xs H Q => ∃ a vs d ds, xs = [V.ref a] ∧ SqL K H a vs ∧ DpAll K H vs (d :: ds) ∧ PySem.W.AlikeAll (d :: ds) ∧ PyData.depthAll (d :: ds) ≤ 40 ∧
  ∀ (i : Nat) (v : V), vs[i]? = some v → (d :: ds)[i]? = some (PySem.W.maxD d ds) → Q v H
theorem mx_vals_at {xs : List V} {us : List Value} (r : Vals xs us) : ∀ (i : Nat) (u : Value), us[i]? = some u → ∃ x, xs[i]? = some x ∧ RelV x u := by
  induction r with
  | nil => intro i u h; simp at h
  | cons r t ih =>
    intro i u h
    cases i with
    | zero =>
      have h : some _ = some u := h
      cases h
      exact ⟨_, rfl, r⟩
    | succ i => exact ih i u h
theorem cr_max1 (hc : X.calm = true) (hu : X.A.units + 65 < cLine) : CallR X (.builtin "max") (rMx X.K) := by
  intro pins s σ H xs us Q I r h
  obtain ⟨a, vs, d, ds, rfl, hs, hd, al, dep, q⟩ := h
  rw [Vals.ref1 r]
  obtain ⟨its, rv, pl, hz⟩ := I.list hs
  obtain ⟨as, hr⟩ := Dp.readsAll I (d :: ds) vs its hd rv
  refine PySem.W.max_list_data (I.ok.hd hc) pl.isList (by simpa using hr) al (by omega) fun i v h' tk bs hv hrd k => ?_
  have hv' : its[i]? = some v := by simpa using hv
  obtain ⟨x, hx, rx⟩ := mx_vals_at rv i v hv'
  obtain ⟨bs2, r2, hi, _, _⟩ := PySem.W.readsAll_at hr i v hv'
  have e : (d :: ds).getD i .none = PySem.W.maxD d ds := (Reads.unique (PySem.W.reads_keeps k r2) _ _ hrd).1
  refine ⟨x, H, I.kept k, rx, q i x hx ?_⟩
  rw [← e, List.getD_eq_getElem?_getD, List.getElem?_eq_getElem hi]
  rfl
def rMxd (K : PySem.W.Frag) : List V → List V → Hp → VK → Prop := fun xs zs H Q => ∃ a vs z ds, xs = [V.ref a] ∧ zs = [z] ∧ SqL K H a vs ∧ DpAll K H vs ds ∧ PySem.W.AlikeAll ds ∧ PyData.depthAll ds ≤ 40 ∧
  (ds = [] → Q z H) ∧ ∀ (d : PyData) (ds' : List PyData) (i : Nat) (v : V), ds = d :: ds' → vs[i]? = some v → ds[i]? = some (PySem.W.maxD d ds') → Q v H
theorem cr_maxd (hc : X.calm = true) (hu : X.A.units + 65 < cLine) : CallRK X (.builtin "max") [Str.ofString "default"] (rMxd X.K) := by
  intro pins s σ H xs zs us ws Q I r r2 h
  obtain ⟨a, vs, z, ds, rfl, rfl, hs, hd, al, dep, q0, q⟩ := h
  rw [Vals.ref1 r]
  cases r2 with
  | cons rz rt =>
    rename_i w ws'
    cases rt
    obtain ⟨its, rv, pl, hz⟩ := I.list hs
    obtain ⟨as, hr⟩ := Dp.readsAll I ds vs its hd rv
    refine PySem.W.max_list_default (I.ok.hd hc) pl.isList (by simpa using hr) al (by omega) (fun e h' tk k => ⟨z, H, I.kept k, rz, q0 e⟩) fun y ys i v h' tk bs e hv hrd k => ?_
    have hv' : its[i]? = some v := by simpa using hv
    obtain ⟨x, hx, rx⟩ := mx_vals_at rv i v hv'
    obtain ⟨bs2, r2, hi, _, _⟩ := PySem.W.readsAll_at hr i v hv'
    have e2 : ds.getD i .none = PySem.W.maxD y ys := (Reads.unique (PySem.W.reads_keeps k r2) _ _ hrd).1
    refine ⟨x, H, I.kept k, rx, q y ys i x e hx ?_⟩
    rw [← e2, List.getD_eq_getElem?_getD, List.getElem?_eq_getElem hi]
    rfl
end
/-! the things themselves -/
theorem mx_pds_len : ∀ {xs : List T} {ds : List PyData}, pds xs = some ds → ds.length = xs.length
  | [], ds, e => by
    obtain rfl : [] = ds := Option.some.inj e
    rfl
  | x :: xs, ds, e => by
    simp only [pds] at e
    cases q1 : pd x with
    | none => rw [q1] at e; cases e
    | some d =>
      cases q2 : pds xs with
      | none => rw [q1, q2] at e; cases e
      | some es =>
        rw [q1, q2] at e
        obtain rfl : d :: es = ds := Option.some.inj e
        rw [List.length_cons, List.length_cons, mx_pds_len q2]
theorem mx_pds_at : ∀ {xs : List T} {ds : List PyData}, pds xs = some ds → ∀ (i : Nat) (x : T), xs[i]? = some x → ∃ d, pd x = some d ∧ ds[i]? = some d
  | [], ds, e, i, x, h => by simp at h
  | y :: xs, ds, e, i, x, h => by
    simp only [pds] at e
    cases q1 : pd y with
    | none => rw [q1] at e; cases e
    | some d =>
      cases q2 : pds xs with
      | none => rw [q1, q2] at e; cases e
      | some es =>
        rw [q1, q2] at e
        obtain rfl : d :: es = ds := Option.some.inj e
        cases i with
        | zero =>
          have h : some y = some x := h
          cases h
          exact ⟨d, q1, rfl⟩
        | succ i => exact mx_pds_at q2 i x h
theorem mxF_mem (t : T) (ts : List T) : mxF t ts ∈ t :: ts := by
  unfold mxF
  induction ts generalizing t with
  | nil => exact List.mem_cons_self
  | cons y ts ih =>
    rw [List.foldl_cons]
    split
    · exact List.mem_cons_of_mem _ (ih y)
    · rcases List.mem_cons.mp (ih t) with h | h
      · rw [h]; exact List.mem_cons_self
      · exact List.mem_cons_of_mem _ (List.mem_cons_of_mem _ h)
theorem mxF_pd : ∀ {ts : List T} {t : T} {d : PyData} {ds : List PyData}, pd t = some d → pds ts = some ds → pd (mxF t ts) = some (PySem.W.maxD d ds)
  | [], t, d, ds, e1, e2 => by
    obtain rfl : [] = ds := Option.some.inj e2
    exact e1
  | y :: ts, t, d, ds, e1, e2 => by
    simp only [pds] at e2
    cases q1 : pd y with
    | none => rw [q1] at e2; cases e2
    | some e =>
      cases q2 : pds ts with
      | none => rw [q1, q2] at e2; cases e2
      | some es =>
        rw [q1, q2] at e2
        obtain rfl : e :: es = ds := Option.some.inj e2
        have st : dtLt t y = PySem.W.dataLt d e := by unfold dtLt; rw [e1, q1]
        show pd (mxF (if dtLt t y then y else t) ts) = some (PySem.W.maxD (if PySem.W.dataLt d e then e else d) es)
        rw [st]
        by_cases c : PySem.W.dataLt d e = true
        · rw [if_pos c, if_pos c]
          exact mxF_pd q1 q2
        · rw [if_neg c, if_neg c]
          exact mxF_pd e1 q2
theorem mx_intsOf_inv : ∀ {xs : List T} {ns : List Int}, intsOf xs = some ns → xs = ns.map .int
  | [], ns, e => by
    obtain rfl : [] = ns := Option.some.inj e
    rfl
  | .int i :: xs, ns, e => by
    have e : (intsOf xs).map (i :: ·) = some ns := e
    cases q : intsOf xs with
    | none => rw [q] at e; cases e
    | some ks =>
      rw [q] at e
      obtain rfl : i :: ks = ns := Option.some.inj e
      rw [mx_intsOf_inv q]
      rfl
  | .non :: _, _, e => nomatch e
  | .bl _ :: _, _, e => nomatch e
  | .str _ :: _, _, e => nomatch e
  | .lst _ :: _, _, e => nomatch e
  | .tup _ :: _, _, e => nomatch e
  | .ty _ :: _, _, e => nomatch e
  | .obj _ _ :: _, _, e => nomatch e
  | .hd _ :: _, _, e => nomatch e
  | .scr _ :: _, _, e => nomatch e
  | .exn _ _ :: _, _, e => nomatch e
  | .fn _ :: _, _, e => nomatch e
theorem mx_pds_ints : ∀ ns : List Int, pds (ns.map .int) = some (ns.map .int)
  | [] => rfl
  | n :: ns => by
    simp only [List.map_cons, pds, mx_pds_ints ns]
    rfl
theorem isI_inv {x : T} (h : isI x = true) : ∃ n, x = .int n := by
  cases x <;> first | exact ⟨_, rfl⟩ | cases h
theorem isIT_inv {x : T} (h : isIT x = true) : ∃ ns : List Int, x = .tup (ns.map .int) := by
  cases x with
  | tup xs =>
    have h : (intsOf xs).isSome = true := h
    cases q : intsOf xs with
    | none => rw [q] at h; cases h
    | some ns => exact ⟨ns, by rw [mx_intsOf_inv q]⟩
  | _ => cases h
theorem mx_pd_itup (ns : List Int) : pd (.tup (ns.map .int)) = some (.tuple (ns.map .int)) := by
  show (pds (ns.map T.int)).map PyData.tuple = _
  rw [mx_pds_ints]
  rfl
theorem mx_ints_inj : ∀ {ns ks : List Int}, ns.map PyData.int = ks.map PyData.int → ns = ks
  | [], [], _ => rfl
  | [], _ :: _, e => nomatch e
  | _ :: _, [], e => nomatch e
  | n :: ns, k :: ks, e => by
    have e1 := (List.cons.inj e).1
    have e2 := mx_ints_inj (List.cons.inj e).2
    cases e1
    rw [e2]
theorem mx_pd_inj {x y : T} (h : (isI x = true ∧ isI y = true) ∨ (isIT x = true ∧ isIT y = true)) {d : PyData} (e1 : pd x = some d) (e2 : pd y = some d) : x = y := by
  rcases h with ⟨h1, h2⟩ | ⟨h1, h2⟩
  · obtain ⟨n, rfl⟩ := isI_inv h1
    obtain ⟨k, rfl⟩ := isI_inv h2
    have e1 : some (PyData.int n) = some d := e1
    have e2 : some (PyData.int k) = some d := e2
    cases e1
    cases e2
    rfl
  · obtain ⟨n, rfl⟩ := isIT_inv h1
    obtain ⟨k, rfl⟩ := isIT_inv h2
    rw [mx_pd_itup] at e1 e2
    cases e1
    have e2 := Option.some.inj e2
    have e3 : k.map PyData.int = n.map PyData.int := by injection e2
    rw [mx_ints_inj e3]
theorem alike_ints2 : ∀ ns ks : List Int, PySem.W.alikeAll (ns.map .int) (ks.map .int) = true
  | [], _ => by unfold PySem.W.alikeAll; rfl
  | _ :: _, [] => by unfold PySem.W.alikeAll; rfl
  | n :: ns, k :: ks => by
    show (PySem.W.alike (.int n) (.int k) && PySem.W.alikeAll (ns.map .int) (ks.map .int)) = true
    rw [alike_ints2 ns ks]
    rfl
theorem mx_depth_ints : ∀ ns : List Int, PyData.depthAll (ns.map .int) ≤ 1
  | [] => by simp [PyData.depthAll]
  | n :: ns => by
    have := mx_depth_ints ns
    simp only [List.map_cons, PyData.depthAll, PyData.depth]
    omega
theorem mx_pds_mem : ∀ {xs : List T} {ds : List PyData}, pds xs = some ds → ∀ d ∈ ds, ∃ x ∈ xs, pd x = some d
  | [], ds, e, d, h => by
    obtain rfl : [] = ds := Option.some.inj e
    cases h
  | y :: xs, ds, e, d, h => by
    simp only [pds] at e
    cases q1 : pd y with
    | none => rw [q1] at e; cases e
    | some d1 =>
      cases q2 : pds xs with
      | none => rw [q1, q2] at e; cases e
      | some es =>
        rw [q1, q2] at e
        obtain rfl : d1 :: es = ds := Option.some.inj e
        rcases List.mem_cons.mp h with rfl | h
        · exact ⟨y, List.mem_cons_self, q1⟩
        · obtain ⟨x, hx, e⟩ := mx_pds_mem q2 d h
          exact ⟨x, List.mem_cons_of_mem _ hx, e⟩
theorem mx_depth_le : ∀ {ds : List PyData} {n : Nat}, (∀ d ∈ ds, d.depth ≤ n) → PyData.depthAll ds ≤ n
  | [], n, _ => by simp [PyData.depthAll]
  | d :: ds, n, h => by
    have := mx_depth_le (ds := ds) (n := n) fun e he => h e (List.mem_cons_of_mem _ he)
    have := h d List.mem_cons_self
    simp only [PyData.depthAll]
    omega
theorem mx_pds_some : ∀ {xs : List T}, (∀ x ∈ xs, ∃ d, pd x = some d) → ∃ ds, pds xs = some ds
  | [], _ => ⟨[], rfl⟩
  | x :: xs, h => by
    obtain ⟨d, e⟩ := h x List.mem_cons_self
    obtain ⟨ds, e2⟩ := mx_pds_some (xs := xs) fun y hy => h y (List.mem_cons_of_mem _ hy)
    exact ⟨d :: ds, by simp only [pds, e, e2]⟩
section
variable {S : Sg} {g : Gh} {m : Sto} {H : Hp}
theorem mx_rep {xs : List T} {t : T} {vs : List V} (e : mx1 xs = some t) (r : reps S g H xs vs) : ∃ d ds, DpAll S.K H vs (d :: ds) ∧ PySem.W.AlikeAll (d :: ds) ∧ PyData.depthAll (d :: ds) ≤ 40 ∧
    ∀ (i : Nat) (v : V), vs[i]? = some v → (d :: ds)[i]? = some (PySem.W.maxD d ds) → rep S g H t v := by
  cases xs with
  | nil => cases e
  | cons x xs =>
    have e : (if (x :: xs).all isI || (x :: xs).all isIT then some (mxF x xs) else none) = some t := e
    by_cases c : ((x :: xs).all isI || (x :: xs).all isIT) = true
    · rw [if_pos c] at e
      cases e
      have kind : (∀ y ∈ x :: xs, isI y = true) ∨ (∀ y ∈ x :: xs, isIT y = true) := by
        rw [Bool.or_eq_true] at c
        exact c.imp List.all_eq_true.mp List.all_eq_true.mp
      have both : ∀ y ∈ x :: xs, ∀ z ∈ x :: xs, (isI y = true ∧ isI z = true) ∨ (isIT y = true ∧ isIT z = true) := fun y hy z hz => kind.imp (fun k => ⟨k y hy, k z hz⟩) fun k => ⟨k y hy, k z hz⟩
      obtain ⟨ds, es⟩ := mx_pds_some (xs := x :: xs) fun y hy => by
        rcases both y hy y hy with ⟨h, _⟩ | ⟨h, _⟩
        · obtain ⟨n, rfl⟩ := isI_inv h
          exact ⟨.int n, rfl⟩
        · obtain ⟨n, rfl⟩ := isIT_inv h
          exact ⟨_, mx_pd_itup n⟩
      obtain ⟨d, ds', q1, q2, rfl⟩ : ∃ d ds', pd x = some d ∧ pds xs = some ds' ∧ ds = d :: ds' := by
        simp only [pds] at es
        cases q1 : pd x with
        | none => rw [q1] at es; cases es
        | some d =>
          cases q2 : pds xs with
          | none => rw [q1, q2] at es; cases es
          | some ds' =>
            rw [q1, q2] at es
            exact ⟨d, ds', rfl, rfl, (Option.some.inj es).symm⟩
      refine ⟨d, ds', pds_dp _ _ _ es r, ⟨fun a ha b hb => ?_, fun a ha => ?_⟩, mx_depth_le fun a ha => ?_, fun i v hv hm => ?_⟩
      · obtain ⟨y, hy, ey⟩ := mx_pds_mem es a ha
        obtain ⟨z, hz, ez⟩ := mx_pds_mem es b hb
        rcases both y hy z hz with ⟨h1, h2⟩ | ⟨h1, h2⟩
        · obtain ⟨n, rfl⟩ := isI_inv h1
          obtain ⟨k, rfl⟩ := isI_inv h2
          have ey : some (PyData.int n) = some a := ey
          have ez : some (PyData.int k) = some b := ez
          cases ey
          cases ez
          rfl
        · obtain ⟨n, rfl⟩ := isIT_inv h1
          obtain ⟨k, rfl⟩ := isIT_inv h2
          rw [mx_pd_itup] at ey ez
          cases ey
          cases ez
          exact alike_ints2 n k
      · obtain ⟨y, hy, ey⟩ := mx_pds_mem es a ha
        rcases both y hy y hy with ⟨h1, _⟩ | ⟨h1, _⟩
        · obtain ⟨n, rfl⟩ := isI_inv h1
          have ey : some (PyData.int n) = some a := ey
          cases ey
          exact fun z => nomatch z
        · obtain ⟨n, rfl⟩ := isIT_inv h1
          rw [mx_pd_itup] at ey
          cases ey
          exact fun z => nomatch z
      · obtain ⟨y, hy, ey⟩ := mx_pds_mem es a ha
        rcases both y hy y hy with ⟨h1, _⟩ | ⟨h1, _⟩
        · obtain ⟨n, rfl⟩ := isI_inv h1
          have ey : some (PyData.int n) = some a := ey
          cases ey
          simp [PyData.depth]
        · obtain ⟨n, rfl⟩ := isIT_inv h1
          rw [mx_pd_itup] at ey
          cases ey
          have := mx_depth_ints n
          simp only [PyData.depth]
          omega
      · have mp := mxF_pd q1 q2
        have li : i < (x :: xs).length := by
          have := (List.getElem?_eq_some_iff.mp hm).1
          rw [mx_pds_len es] at this
          exact this
        have hx : (x :: xs)[i]? = some (x :: xs)[i] := List.getElem?_eq_getElem li
        obtain ⟨d2, e1, e2⟩ := mx_pds_at es i _ hx
        rw [hm] at e2
        obtain rfl := Option.some.inj e2
        have eq := mx_pd_inj (both _ (List.getElem_mem li) _ (mxF_mem x xs)) e1 mp
        rw [← eq]
        obtain ⟨v', hv', rv⟩ := reps_get r hx
        rw [hv] at hv'
        obtain rfl := Option.some.inj hv'
        exact rv
    · rw [if_neg c] at e
      cases e
end
end BV
/-! items, slices, kinds, built-ins -/
namespace BV
open PySem PySem.Spec L2
section
variable {S : Sg} {g : Gh} {m : Sto} {H : Hp} {Q : VK} {W : Value → Option Addr → Hp → Prop} {t : T} {v : V}
theorem atI_len {α β : Type} {xs : List α} {ys : List β} {i : Int} {x : α} (l : ys.length = xs.length) (h : atI xs i = some x) : ∃ j : Nat, xs[j]? = some x ∧ ∀ y, ys[j]? = some y → atI ys i = some y := by
  unfold atI at h
  cases e : ixN xs.length i with
  | none => rw [e] at h; cases h
  | some j =>
    rw [e] at h
    refine ⟨j, h, fun y q => ?_⟩
    unfold atI
    rw [l, e]
    exact q
def rIxDic : R2 := fun x y H Q => ∃ a v, x = .ref a ∧ DGet H a y (some v) ∧ Q v H
theorem ix_dic {X : Cx} (hu : X.A.units + 1 < cLine) : IxR X rIxDic := by
  intro value slice pins s σ H x y v u Q I rx ry h hs
  obtain ⟨a, w, ex, g, q⟩ := h
  subst ex
  obtain rfl : v = Value.ref a := rx
  exact PyProof.Rows.tail_any (dict_typeIs I g) PySem.F.slot_dict_getitem.lookup (d_getItem hu I g ry fun w' s' J rw' => ⟨w, H, J, rw', q⟩) hs
theorem didxT_ok {x y : T} {v u : V} (rl : Rel S g m H) (hx : rep S g H x v) (hy : rep S g H y u) (p : PoT S g H Q W (didxT x y m)) : rIxDic v u H Q := by
  unfold didxT at p
  split at p
  · rename_i kvs k ed ek
    split at p
    · rename_i t et
      obtain ⟨n, a, us, rfl, hp, hn, rfl, h1, h2, h3, h4⟩ := dicOf_rep rl ed hx
      obtain rfl := key_rep ek hy
      rcases dget_rel (k := k) h3 h4 with ⟨i1, i2⟩ | ⟨t', w, i1, i2, i3⟩
      · rw [i1] at et; cases et
      · rw [i1] at et
        obtain rfl := Option.some.inj et
        exact ⟨a, w, rfl, by rw [← i2]; exact DGet.k h1, PoT.now rl p i3⟩
    · exact p.elim
  · exact p.elim
def rIxA (K : PySem.W.Frag) : R2 := fun x y H Q => rIx K x y H Q ∨ rIxDic x y H Q
theorem idxT_ok (S : Sg) : OpB S idxT (rIxA S.K) := by
  intro g m H x y v u Q W rl hx hy p
  unfold idxT at p
  split at p
  · rename_i i
    have hu : u = .int i := hy
    have sq : ∀ {xs : List T} {t : T} (p : PoT S g H Q W (.ok t m)), seqOf m x = some xs → atI xs i = some t → rIx S.K v u H Q := fun {xs t} p e e2 => by
      obtain ⟨a, vs, rfl, k, r, l⟩ := seqOf_rep rl e hx
      obtain ⟨j, h1, h2⟩ := atI_len (reps_len r) e2
      obtain ⟨w, h3, h4⟩ := reps_get r h1
      have q : Q w H := PoT.now rl p h4
      rcases k with k | k
      · exact .inl ⟨a, vs, i, w, rfl, hu, k, h2 w h3, q⟩
      · exact .inr (.inl ⟨a, vs, i, w, rfl, hu, k, h2 w h3, q⟩)
    split at p
    · rename_i a
      split at p
      · rename_i c e
        obtain ⟨rfl, l⟩ := hx
        exact .inl (.inr (.inr ⟨a, i, c, rfl, hu, by rw [sizeL]; exact l, e, PoT.now rl p ⟨rfl, by show 1 ≤ 16777216; decide⟩⟩))
      · exact p.elim
    · rename_i xs
      split at p
      · rename_i c e
        obtain ⟨a, rfl, ha, l⟩ := hx
        obtain ⟨j, h1, h2⟩ := atI_len (ys := xs.map V.int) (by simp) e
        exact .inl (.inl ⟨a, xs.map .int, i, .int c, rfl, hu, ha.sq, h2 _ (by rw [List.getElem?_map, h1]; rfl), PoT.now rl p rfl⟩)
      · exact p.elim
    · split at p
      · rename_i xs e
        split at p
        · rename_i t e2
          exact .inl (sq p e e2)
        · exact p.elim
      · exact .inr (didxT_ok rl hx hy p)
  · exact .inr (didxT_ok rl hx hy p)
/-! ### slices -/
theorem cut_reps {xs : List T} {vs : List V} (lo hi : Option Int) (r : reps S g H xs vs) : reps S g H (cutT xs lo hi) (cutV vs lo hi) := by
  unfold cutT cutV
  rw [reps_len r]
  exact reps_take _ (reps_drop _ r)
theorem cutT_len {α : Type} (xs : List α) (lo hi : Option Int) : (cutT xs lo hi).length ≤ xs.length := by
  unfold cutT
  rw [List.length_take, List.length_drop]
  omega
theorem cutV_ints (ns : List Int) (lo hi : Option Int) : cutV (ns.map V.int) lo hi = (cutT ns lo hi).map V.int := by
  unfold cutT cutV
  rw [List.length_map, ← List.map_drop, ← List.map_take]
def rSlZ (K : PySem.W.Frag) : V → Option Int → Option Int → Hp → VK → Prop := fun x lo hi H Q => rSlL K x lo hi H Q ∨ rSlA K x lo hi H Q ∨ rSlS x lo hi H Q
theorem sl_z {X : Cx} : SlR X (rSlZ X.K) := sl_list.or (sl_tupA.or sl_str)
theorem cut_wholeT {xs : List T} {lo hi : Option Int} (h : HT.sIx xs.length 0 lo = 0 ∧ HT.sIx xs.length xs.length hi = xs.length) : cutT xs lo hi = xs := by
  unfold cutT
  rw [h.1, h.2]
  simp
theorem slcT_ok {lo hi : Option Int} (rl : Rel S g m H) (hx : rep S g H t v) (p : PoT S g H Q W (slcT t lo hi m)) : rSlZ S.K v lo hi H Q := by
  unfold slcT at p
  split at p
  · rename_i a
    obtain ⟨rfl, l⟩ := hx
    refine .inr (.inr ⟨a, rfl, by rw [sizeL]; exact l, PoT.now rl p ⟨rfl, ?_⟩⟩)
    have z : (cutT a.cps.toList lo hi).length ≤ a.cps.size := cutT_len a.cps.toList lo hi
    have l' : a.cps.size ≤ 16777216 := l
    exact Nat.le_trans z l'
  · rename_i xs
    obtain ⟨a, rfl, ha, l⟩ := hx
    refine .inl ⟨a, _, rfl, ha.sq, fun q hq => ?_⟩
    rw [cutV_ints]
    exact p.lst rl hq (by rw [List.length_map]; exact Nat.le_trans (cutT_len xs lo hi) l) (reps_ints _)
  · rename_i xs
    obtain ⟨a, vs, rfl, k, l, r⟩ := hx
    refine .inr (.inl ⟨a, vs, rfl, k, fun w => ?_, fun _ q hq => ?_⟩)
    · rw [reps_len r] at w
      rw [cut_wholeT w] at p
      exact PoT.now rl p ⟨a, vs, rfl, k, l, r⟩
    · exact p.tup rl hq (Nat.le_trans (cutT_len xs lo hi) l) (cut_reps lo hi r)
  · split at p
    · rename_i xs e
      obtain ⟨a, vs, rfl, k, r, l⟩ := lstOf_rep rl e hx
      refine .inl ⟨a, vs, rfl, SqL.of k, fun q hq => ?_⟩
      exact p.lst rl hq (Nat.le_trans (cutT_len xs lo hi) l) (cut_reps lo hi r)
    · exact p.elim
/-! ### kinds -/
def tyN : Ty → String
  | .int => "int" | .bool => "bool" | .str => "str" | .list => "list" | .tuple => "tuple" | .dict => "dict"
def tnT (m : Sto) : T → String
  | .non => "NoneType" | .bl _ => "bool" | .int _ => "int" | .str _ => "str" | .tup _ => "tuple"
  | .hd n => (match m[n]? with
    | some (.dK _) => "dict"
    | _ => "list")
  | _ => "list"
theorem ty_tyx (rl : Rel S g m H) {c : Ty} {b : Bool} (e : tyIs t m c = some b) (h : rep S g H t v) : TyX S.K H v (.type (tnT m t)) := by
  cases t with
  | non => obtain rfl : v = .non := h; exact .base .non
  | bl k => obtain rfl : v = .bl k := h; exact .base (.bl k)
  | int k => obtain rfl : v = .int k := h; exact .base (.int k)
  | str k => obtain ⟨rfl, _⟩ := h; exact .base (.str k)
  | lst xs =>
    obtain ⟨a, vs, rfl, na, ha, l, r⟩ := h
    exact .base (.lst ha)
  | scr xs =>
    obtain ⟨a, rfl, ha, l⟩ := h
    rcases ha with (⟨o, ha⟩ | (ha | ⟨o, ha⟩) | ⟨o, its, n, k1, k2, _⟩) | ⟨_, ha⟩
    · exact .base (.frz ha)
    · cases ha
    · cases ha
    · exact .kList k1 k2
    · exact .base (.lst ha)
  | tup xs =>
    obtain ⟨a, vs, rfl, k, l, r⟩ := h
    rcases k with (k | ⟨o, k⟩) | ⟨o, its, n, k1, k2, _⟩
    · exact .base (.tup k)
    · exact .fTuple k
    · exact .kTuple k1 k2
  | hd n =>
    obtain ⟨a, rfl, ha⟩ := h
    simp only [tyIs] at e
    unfold tnT
    dsimp only
    split at e
    · rename_i xs hn
      obtain ⟨vs, h1, h2, h3⟩ := rl.cell n a _ ha hn
      rw [hn]
      exact .base (.lst h1)
    · rename_i kvs hn
      obtain ⟨us, h1, h2, h3⟩ := rl.cell n a _ ha hn
      rw [hn]
      exact .base (.dK h1)
    · cases e
  | ty _ => cases e
  | obj _ _ => cases e
  | exn _ _ => cases e
  | fn _ => cases e
theorem ty_kit {K : PySem.W.Frag} {c : Ty} {b : Bool} (e : tyIs t m c = some b) : PySem.W.kitOne K (.type (tnT m t)) (.type (tyN c)) = some b := by
  have key : ∀ (n : String) (c : Ty) (b : Bool), kitB n (tyN c) = some b → PySem.W.kitOne K (.type n) (.type (tyN c)) = some b := fun n c b h => kit_ty h
  cases t with
  | non => exact key "NoneType" c b (by cases c <;> (obtain rfl := Option.some.inj e; decide +kernel))
  | bl k => exact key "bool" c b (by cases c <;> (obtain rfl := Option.some.inj e; decide +kernel))
  | int k => exact key "int" c b (by cases c <;> (obtain rfl := Option.some.inj e; decide +kernel))
  | str k => exact key "str" c b (by cases c <;> (obtain rfl := Option.some.inj e; decide +kernel))
  | tup xs => exact key "tuple" c b (by cases c <;> (obtain rfl := Option.some.inj e; decide +kernel))
  | lst xs => exact key "list" c b (by cases c <;> (obtain rfl := Option.some.inj e; decide +kernel))
  | scr xs => exact key "list" c b (by cases c <;> (obtain rfl := Option.some.inj e; decide +kernel))
  | hd n =>
    simp only [tyIs] at e
    unfold tnT
    dsimp only
    split at e
    · rename_i xs hn
      rw [hn]
      exact key "list" c b (by cases c <;> (obtain rfl := Option.some.inj e; decide +kernel))
    · rename_i xs hn
      rw [hn]
      exact key "dict" c b (by cases c <;> (obtain rfl := Option.some.inj e; decide +kernel))
    · cases e
  | ty _ => cases e
  | obj _ _ => cases e
  | exn _ _ => cases e
  | fn _ => cases e
/-- isinstance(x, c) -/
theorem isi_ok (rl : Rel S g m H) {c : Ty} {b : Bool} (e : tyIs t m c = some b) (h : rep S g H t v) (q : Q (.bl b) H) : rIsi S.K [v, .ty (tyN c)] H Q :=
  ⟨v, _, _, _, b, rfl, .ty _, ty_tyx rl e h, ty_kit e, q⟩
theorem any_kit {K : PySem.W.Frag} : ∀ {cs : List Ty} {b : Bool}, tyAny t m cs = some b → PySem.W.kitAny K (.type (tnT m t)) (cs.map fun c => Value.type (tyN c)) = some b
  | [], b, e => e
  | c :: cs, b, e => by
    simp only [tyAny] at e
    cases e1 : tyIs t m c with
    | none => rw [e1] at e; cases e
    | some b1 =>
      cases e2 : tyAny t m cs with
      | none => rw [e1, e2] at e; cases e
      | some b2 =>
        rw [e1, e2] at e
        obtain rfl : (b1 || b2) = b := Option.some.inj e
        exact kitAny_cons (ty_kit e1) (fun z => by rw [z, Bool.false_or]; exact any_kit e2) (fun z => by rw [z, Bool.true_or])
theorem cls_all : ∀ (cs : List Ty), Paired ClsV (cs.map fun c => V.ty (tyN c)) (cs.map fun c => Value.type (tyN c))
  | [] => .nil
  | c :: cs => .cons (.ty _) (cls_all cs)
/-- isinstance(x, (c1, ..)) -/
theorem isn_ok (rl : Rel S g m H) {c : Ty} {cs : List Ty} {b : Bool} (e : tyAny t m (c :: cs) = some b) (h : rep S g H t v) {p : Addr} (hp : H p = some (.tup ((c :: cs).map fun c => V.ty (tyN c)))) (q : Q (.bl b) H) : rIsiT S.K [v, .ref p] H Q := by
  have e1 : ∃ b1, tyIs t m c = some b1 := by
    simp only [tyAny] at e
    cases e1 : tyIs t m c with
    | none => rw [e1] at e; cases e
    | some b1 => exact ⟨b1, rfl⟩
  obtain ⟨b1, e1⟩ := e1
  exact ⟨v, p, _, _, _, b, rfl, hp, cls_all (c :: cs), ty_tyx rl e1 h, any_kit e, q⟩
/-! ### built-ins -/
def CalB (S : Sg) (f : List T → Sto → Rs T) (r : List V → Hp → VK → Prop) : Prop :=
  ∀ (g : Gh) (m : Sto) (H : Hp) (xs : List T) (vs : List V) (Q : VK) (W : Value → Option Addr → Hp → Prop), Rel S g m H → reps S g H xs vs → PoT S g H Q W (f xs m) → r vs H Q
theorem reps1 {xs : List V} {x : T} (h : reps S g H [x] xs) : ∃ v, xs = [v] ∧ rep S g H x v := by
  obtain ⟨v, r, rfl, h1, h2⟩ := h
  obtain rfl : r = [] := h2
  exact ⟨v, rfl, h1⟩
theorem reps2 {xs : List V} {x y : T} (h : reps S g H [x, y] xs) : ∃ v u, xs = [v, u] ∧ rep S g H x v ∧ rep S g H y u := by
  obtain ⟨v, r, rfl, h1, h2⟩ := h
  obtain ⟨u, rfl, h3⟩ := reps1 h2
  exact ⟨v, u, rfl, h1, h3⟩
theorem bls_rep : ∀ {xs : List T} {ns : List Bool} {vs : List V}, bls xs = some ns → reps S g H xs vs → vs = ns.map .bl
  | [], ns, _, e, h => by
    obtain rfl : [] = ns := Option.some.inj e
    exact h
  | .bl i :: xs, ns, _, e, h => by
    simp only [bls] at e
    cases z : bls xs with
    | none => rw [z] at e; cases e
    | some ms =>
      rw [z] at e
      obtain rfl : i :: ms = ns := Option.some.inj e
      obtain ⟨v, r, rfl, h1, h2⟩ := h
      obtain rfl : v = .bl i := h1
      rw [bls_rep z h2]
      rfl
  | .non :: _, _, _, e, _ => nomatch e
  | .int _ :: _, _, _, e, _ => nomatch e
  | .str _ :: _, _, _, e, _ => nomatch e
  | .ty _ :: _, _, _, e, _ => nomatch e
  | .lst _ :: _, _, _, e, _ => nomatch e
  | .tup _ :: _, _, _, e, _ => nomatch e
  | .obj _ _ :: _, _, _, e, _ => nomatch e
  | .hd _ :: _, _, _, e, _ => nomatch e
  | .scr _ :: _, _, _, e, _ => nomatch e
  | .exn _ _ :: _, _, _, e, _ => nomatch e
  | .fn _ :: _, _, _, e, _ => nomatch e
def biN : BI → String
  | .len => "len" | .abs => "abs" | .max => "max" | .min => "min" | .int => "int" | .list => "list" | .tuple => "tuple" | .all => "all" | .any => "any" | .divmod => "divmod" | .sorted => "sorted" | .str => "str"
/-- is it a class? -/
def biC : BI → Bool
  | .int => true | .list => true | .tuple => true | .str => true
  | _ => false
def biV (b : BI) : Value := if biC b then .type (biN b) else .builtin (biN b)
theorem len_ok (S : Sg) : CalB S (biT .len) (fun xs H Q => (∃ p ys, xs = [.ref p] ∧ (SqL S.K H p ys ∨ SqT S.K H p ys) ∧ Q (.int ys.length) H) ∨ ∃ z, xs = [.str z] ∧ z.length ≤ sizeLine ∧ Q (.int z.length) H) := by
  intro g m H xs vs Q W rl h p
  match xs, h, p with
  | [t], h, p =>
    obtain ⟨v, rfl, hv⟩ := reps1 h
    dsimp only [biT] at p
    split at p
    · rename_i a
      obtain ⟨rfl, l⟩ := hv
      exact .inr ⟨a, rfl, by rw [sizeL]; exact l, PoT.now rl p rfl⟩
    · rename_i xs
      obtain ⟨a, rfl, ha, l⟩ := hv
      refine .inl ⟨a, _, rfl, .inl ha.sq, ?_⟩
      rw [List.length_map]
      exact PoT.now rl p rfl
    · split at p
      · rename_i xs e
        obtain ⟨a, vs, rfl, k, r, l⟩ := seqOf_rep rl e hv
        refine .inl ⟨a, vs, rfl, k, ?_⟩
        rw [reps_len r]
        exact PoT.now rl p rfl
      · exact p.elim
  | [], h, p => exact p.elim
  | _ :: _ :: _, h, p => exact p.elim
theorem abs_ok (S : Sg) : CalB S (biT .abs) (fun xs H Q => ∃ i, xs = [.int i] ∧ Q (.int (if i < 0 then -i else i)) H) := by
  intro g m H xs vs Q W rl h p
  unfold biT at p
  split at p <;> first | exact p.elim | cases ‹BI.abs = _› | skip
  rename_i i
  obtain ⟨v, rfl, hv⟩ := reps1 h
  obtain rfl : v = .int i := hv
  exact ⟨i, rfl, PoT.now rl p rfl⟩
theorem max_ok (S : Sg) : CalB S (biT .max) (fun xs H Q => (∃ i j, xs = [.int i, .int j] ∧ Q (.int (if j > i then j else i)) H) ∨ rMx S.K xs H Q) := by
  intro g m H xs vs Q W rl h p
  unfold biT at p
  split at p <;> first | exact p.elim | cases ‹BI.max = _› | skip
  · rename_i i j
    obtain ⟨v, u, rfl, hv, hu⟩ := reps2 h
    obtain rfl : v = .int i := hv
    obtain rfl : u = .int j := hu
    exact .inl ⟨i, j, rfl, PoT.now rl p rfl⟩
  · rename_i t
    obtain ⟨v, rfl, hv⟩ := reps1 h
    split at p
    · rename_i xs e
      obtain ⟨a, vs, rfl, k, r, l⟩ := lstOf_rep rl e hv
      split at p
      · rename_i y ey
        obtain ⟨d, ds, h1, h2, h3, h4⟩ := mx_rep ey r
        exact .inr ⟨a, vs, d, ds, rfl, SqL.of k, h1, h2, h3, fun i v hv hm => PoT.now rl p (h4 i v hv hm)⟩
      · exact p.elim
    · exact p.elim
theorem min_ok (S : Sg) : CalB S (biT .min) (fun xs H Q => ∃ i j, xs = [.int i, .int j] ∧ Q (.int (if j < i then j else i)) H) := by
  intro g m H xs vs Q W rl h p
  unfold biT at p
  split at p <;> first | exact p.elim | cases ‹BI.min = _› | skip
  rename_i i j
  obtain ⟨v, u, rfl, hv, hu⟩ := reps2 h
  obtain rfl : v = .int i := hv
  obtain rfl : u = .int j := hu
  exact ⟨i, j, rfl, PoT.now rl p rfl⟩
theorem int_ok (S : Sg) : CalB S (biT .int) (fun xs H Q => ((∃ i, xs = [.int i] ∧ Q (.int i) H) ∨ ∃ k, xs = [.bl k] ∧ Q (.int (if k then 1 else 0)) H) ∨ ∃ a n, xs = [.str a] ∧ PySem.intText? a = some n ∧ a.length ≤ 640 ∧ Q (.int n) H) := by
  intro g m H xs vs Q W rl h p
  unfold biT at p
  split at p <;> first | exact p.elim | cases ‹BI.int = _› | skip
  · rename_i i
    obtain ⟨v, rfl, hv⟩ := reps1 h
    obtain rfl : v = .int i := hv
    exact .inl (.inl ⟨i, rfl, PoT.now rl p rfl⟩)
  · rename_i i
    obtain ⟨v, rfl, hv⟩ := reps1 h
    obtain rfl : v = .bl i := hv
    exact .inl (.inr ⟨i, rfl, PoT.now rl p rfl⟩)
  · rename_i a
    obtain ⟨v, rfl, hv⟩ := reps1 h
    obtain ⟨rfl, _⟩ : v = .str a ∧ a.length ≤ 16777216 := hv
    split at p
    · rename_i hl
      split at p
      · rename_i n hn
        exact .inr ⟨a, n, rfl, hn, hl, PoT.now rl p rfl⟩
      · exact p.elim
    · exact p.elim
theorem list_ok (S : Sg) : CalB S (biT .list) (fun xs H Q => ∃ p ys, xs = [.ref p] ∧ (SqL S.K H p ys ∨ SqT S.K H p ys) ∧ ∀ l, H l = none → Q (.ref l) (upd H l (.lst ys))) := by
  intro g m H xs vs Q W rl h p
  unfold biT at p
  split at p <;> first | exact p.elim | cases ‹BI.list = _› | skip
  obtain ⟨v, rfl, hv⟩ := reps1 h
  split at p
  · rename_i xs e
    obtain ⟨a, vs, rfl, k, r, l⟩ := seqOf_rep rl e hv
    exact ⟨a, vs, rfl, k, fun q hq => p.lst rl hq l r⟩
  · exact p.elim
theorem tuple_ok (S : Sg) : CalB S (biT .tuple) (fun xs H Q => ∃ p ys, xs = [.ref p] ∧ ((SqL S.K H p ys ∧ ∀ l, H l = none → Q (.ref l) (upd H l (.tup ys))) ∨ (SqT S.K H p ys ∧ Q (.ref p) H))) := by
  intro g m H xs vs Q W rl h p
  unfold biT at p
  split at p <;> first | exact p.elim | cases ‹BI.tuple = _› | skip
  obtain ⟨v, rfl, hv⟩ := reps1 h
  split at p
  · rename_i xs e
    obtain ⟨a, vs, rfl, k, r, l⟩ := seqOf_rep rl e hv
    refine ⟨a, vs, rfl, ?_⟩
    rcases k with k | k
    · exact .inl ⟨k, fun q hq => p.tup rl hq l r⟩
    · exact .inr ⟨k, PoT.now rl p ⟨a, vs, rfl, k, l, r⟩⟩
  · exact p.elim
theorem all_ok (S : Sg) : CalB S (biT .all) (rAll S.K) := by
  intro g m H xs vs Q W rl h p
  unfold biT at p
  split at p <;> first | exact p.elim | cases ‹BI.all = _› | skip
  obtain ⟨v, rfl, hv⟩ := reps1 h
  split at p
  · rename_i xs e
    obtain ⟨a, vs, rfl, k, r, l⟩ := lstOf_rep rl e hv
    split at p
    · rename_i bs eb
      rw [bls_rep eb r] at k
      exact ⟨a, bs, rfl, SqL.of k, PoT.now rl p rfl⟩
    · exact p.elim
  · exact p.elim
theorem any_ok (S : Sg) : CalB S (biT .any) (rAny S.K) := by
  intro g m H xs vs Q W rl h p
  unfold biT at p
  split at p <;> first | exact p.elim | cases ‹BI.any = _› | skip
  obtain ⟨v, rfl, hv⟩ := reps1 h
  split at p
  · rename_i xs e
    obtain ⟨a, vs, rfl, k, r, l⟩ := lstOf_rep rl e hv
    split at p
    · rename_i bs eb
      rw [bls_rep eb r] at k
      exact ⟨a, bs, rfl, SqL.of k, PoT.now rl p rfl⟩
    · exact p.elim
  · exact p.elim
theorem sm_bits {i : Int} (h : sm i) : Builtin.Int.intBits i ≤ 1000 := by
  have := sm_log h
  unfold Builtin.Int.intBits
  split <;> omega
theorem divmod_ok (S : Sg) : CalB S (biT .divmod) (fun xs H Q => ∃ i j, xs = [.int i, .int j] ∧ CDivP i j ∧ ∀ p, H p = none → Q (.ref p) (upd H p (.tup [.int (i / j), .int (i % j)]))) := by
  intro g m H xs vs Q W rl h p
  unfold biT at p
  split at p <;> first | exact p.elim | cases ‹BI.divmod = _› | skip
  rename_i i j
  obtain ⟨v, u, rfl, hv, hu⟩ := reps2 h
  obtain rfl : v = .int i := hv
  obtain rfl : u = .int j := hu
  split at p
  · rename_i c
    refine ⟨i, j, rfl, divp_ok c.1.1 (by have := sm_bits c.2; omega), fun q hq => ?_⟩
    exact p.tup rl hq (by show 2 ≤ 16777216; decide) ⟨_, _, rfl, rfl, _, _, rfl, rfl, rfl⟩
  · exact p.elim
theorem cr_str_non {X : Cx} : CallR X (.type "str") (fun xs H Q => xs = [.non] ∧ Q (.str "None") H) := by
  intro pins s σ H xs us Q I r h
  obtain ⟨rfl, q⟩ := h
  obtain ⟨u, rfl, hu⟩ := vals1 r
  obtain rfl : u = Value.none := hu
  exact PySem.P.str_of_none ⟨.str "None", H, I.tok _, ⟨_, rfl⟩, q⟩
theorem str_ok (S : Sg) : CalB S (biT .str) (fun xs H Q => ((∃ i, xs = [.int i] ∧ i.natAbs.log2 < 1920 ∧ Q (.str (toString i)) H) ∨ (∃ a, xs = [.str a] ∧ Q (.str a) H)) ∨ (xs = [.non] ∧ Q (.str "None") H)) := by
  intro g m H xs vs Q W rl h p
  unfold biT at p
  split at p <;> first | exact p.elim | cases ‹BI.str = _› | skip
  · rename_i a
    obtain ⟨v, rfl, hv⟩ := reps1 h
    obtain ⟨rfl, hl⟩ : v = .str a ∧ a.length ≤ 16777216 := hv
    exact .inl (.inr ⟨a, rfl, PoT.now rl p ⟨rfl, hl⟩⟩)
  · obtain ⟨v, rfl, hv⟩ := reps1 h
    obtain rfl : v = .non := hv
    exact .inr ⟨rfl, PoT.now rl p ⟨rfl, by decide⟩⟩
  · rename_i i
    obtain ⟨v, rfl, hv⟩ := reps1 h
    obtain rfl : v = .int i := hv
    split at p
    · rename_i c
      exact .inl (.inl ⟨i, rfl, c.1, PoT.now rl p ⟨rfl, c.2⟩⟩)
    · exact p.elim
theorem strs_rep : ∀ {xs : List T} {ns : List Str} {vs : List V}, strsOf xs = some ns → reps S g H xs vs → vs = ns.map .str ∧ ∀ x ∈ ns, x.length ≤ 16777216
  | [], ns, _, e, h => by
    obtain rfl : [] = ns := Option.some.inj e
    exact ⟨h, fun x hx => nomatch hx⟩
  | .str i :: xs, ns, _, e, h => by
    simp only [strsOf] at e
    cases z : strsOf xs with
    | none => rw [z] at e; cases e
    | some ms =>
      rw [z] at e
      obtain rfl : i :: ms = ns := Option.some.inj e
      obtain ⟨v, r, rfl, h1, h2⟩ := h
      obtain ⟨h3, h4⟩ := strs_rep z h2
      refine ⟨by rw [h1.1, h3]; rfl, fun x hx => ?_⟩
      rcases List.mem_cons.mp hx with rfl | hx
      · exact h1.2
      · exact h4 x hx
  | .non :: _, _, _, e, _ => nomatch e
  | .int _ :: _, _, _, e, _ => nomatch e
  | .bl _ :: _, _, _, e, _ => nomatch e
  | .ty _ :: _, _, _, e, _ => nomatch e
  | .lst _ :: _, _, _, e, _ => nomatch e
  | .tup _ :: _, _, _, e, _ => nomatch e
  | .obj _ _ :: _, _, _, e, _ => nomatch e
  | .hd _ :: _, _, _, e, _ => nomatch e
  | .scr _ :: _, _, _, e, _ => nomatch e
  | .exn _ _ :: _, _, _, e, _ => nomatch e
  | .fn _ :: _, _, _, e, _ => nomatch e
theorem reps_strs : ∀ (ns : List Str), (∀ x ∈ ns, x.length ≤ 16777216) → reps S g H (ns.map .str) (ns.map .str)
  | [], _ => rfl
  | x :: ns, h => ⟨_, _, rfl, ⟨rfl, h x List.mem_cons_self⟩, reps_strs ns fun y hy => h y (List.mem_cons_of_mem _ hy)⟩
theorem srtI_eq {ns ns' : List Int} (h1 : ns'.Perm ns) (h2 : ns'.Pairwise (· ≤ ·)) : ns' = srtI ns := by
  refine List.Perm.eq_of_pairwise (le := fun a b : Int => a ≤ b) (fun a b _ _ h h' => by omega) h2 ?_ (h1.trans (List.mergeSort_perm ..).symm)
  have := List.pairwise_mergeSort (le := fun a b : Int => decide (a ≤ b)) (fun a b c h h' => by simp at *; omega) (fun a b => by simp; omega) ns
  simpa [srtI] using this
theorem leStr_iff {a b : Str} : leStr a b = true ↔ PySem.Spec.ltCps b.cps.toList a.cps.toList = false := by
  unfold leStr
  rw [PyProof.Rows.lt_meets]
  cases PySem.Spec.ltCps b.cps.toList a.cps.toList <;> simp
theorem leStr_anti {a b : Str} (h : leStr a b = true) (h' : leStr b a = true) : a = b := by
  unfold leStr at h h'
  simp at h h'
  have : a.cps.toList = b.cps.toList := List.le_antisymm h h'
  cases a; cases b
  simp at this
  rw [this]
theorem leStr_trans {a b c : Str} (h : leStr a b = true) (h' : leStr b c = true) : leStr a c = true := by
  unfold leStr at *
  simp at *
  exact List.le_trans h h'
theorem leStr_total (a b : Str) : (leStr a b || leStr b a) = true := by
  unfold leStr
  simp
  exact List.le_total _ _
theorem pw_rising : ∀ (l : List Str) (p : Str), PyProof.Rows.risingS p l = true → (p :: l).Pairwise (fun a b => leStr a b = true)
  | [], p, _ => List.pairwise_singleton _ _
  | x :: l, p, h => by
    have e : PyProof.Rows.risingS p (x :: l) = (!PySem.Spec.ltCps x.cps.toList p.cps.toList && PyProof.Rows.risingS x l) := rfl
    rw [e, Bool.and_eq_true] at h
    have ih := pw_rising l x h.2
    have h1 : leStr p x = true := leStr_iff.mpr (by simpa using h.1)
    refine List.pairwise_cons.mpr ⟨fun y hy => ?_, ih⟩
    rcases List.mem_cons.mp hy with rfl | hy
    · exact h1
    · exact leStr_trans h1 ((List.pairwise_cons.mp ih).1 y hy)
theorem srtS_eq {ns ns' : List Str} (h1 : ns'.Perm ns) (h2 : PyProof.Rows.sortedS ns' = true) : ns' = srtS ns := by
  refine List.Perm.eq_of_pairwise (le := fun a b : Str => leStr a b = true) (fun a b _ _ h h' => leStr_anti h h') ?_ (List.pairwise_mergeSort (le := leStr) (fun a b c h h' => leStr_trans h h') leStr_total ns) (h1.trans (List.mergeSort_perm ..).symm)
  cases ns' with
  | nil => exact List.Pairwise.nil
  | cons x l => exact pw_rising l x h2
/-! sorted of pairs of ints -/
def prOk (K : PySem.W.Frag) (H : Hp) (x : V) (p : Int × Int) : Prop := ∃ t, x = .ref t ∧ SqT K H t [.int p.1, .int p.2]
def prsOk (K : PySem.W.Frag) (H : Hp) : List V → List (Int × Int) → Prop
  | [], [] => True
  | x :: xs, p :: ps => prOk K H x p ∧ prsOk K H xs ps
  | _, _ => False
def rSortedT (K : PySem.W.Frag) : List V → Hp → VK → Prop := fun vs H Q => ∃ (a : Addr) (xs : List V) (ps : List (Int × Int)), vs = [V.ref a] ∧ SqL K H a xs ∧ prsOk K H xs ps ∧
  ∀ ys p, prsOk K H ys (srtP ps) → H p = none → Q (.ref p) (upd H p (.lst ys))
def pairAt (h : Heap) (v : Value) : Int × Int := match v with
  | .ref t => match h.get? t with
    | some o => match o.data with
      | .seq xs _ => match xs.toList with
        | [.int i _, .int j _] => (i, j)
        | _ => (0, 0)
      | _ => (0, 0)
    | none => (0, 0)
  | _ => (0, 0)
theorem prs_vals {X : Cx} {pins : List (Addr × Obj)} {σ : L2.St} {H : Hp} {s : Shared} (I : Inv X pins σ H s) : ∀ {xs : List V} {ps : List (Int × Int)} {us : List Value}, prsOk X.K H xs ps → Vals xs us →
    us.map (pairAt s.heap) = ps ∧ ∀ u ∈ us, Srt.IsPair s.heap u (pairAt s.heap u).1 (pairAt s.heap u).2 ∧ ∃ t, u = Value.ref t ∧ SqT X.K H t [.int (pairAt s.heap u).1, .int (pairAt s.heap u).2]
  | [], [], _, _, r => by
    cases r
    exact ⟨rfl, fun u hu => nomatch hu⟩
  | x :: xs, p :: ps, _, h, r => by
    cases r with
    | cons r1 r2 =>
      rename_i u us
      obtain ⟨⟨t, rfl, ht⟩, h2⟩ := h
      obtain ⟨e, q⟩ := prs_vals I h2 r2
      obtain rfl : u = Value.ref t := r1
      obtain ⟨its, rv, ⟨o, ho, hc, n, hd⟩, _⟩ := I.tuple ht
      obtain ⟨u1, u2, rfl, ri, rj⟩ := vals2 rv
      obtain ⟨t1, rfl⟩ := ri
      obtain ⟨t2, rfl⟩ := rj
      have pe : pairAt s.heap (.ref t) = p := by
        unfold pairAt
        dsimp only
        rw [ho]
        dsimp only
        rw [hd]
      refine ⟨by rw [List.map_cons, e, pe], fun v hv => ?_⟩
      rcases List.mem_cons.mp hv with rfl | hv
      · rw [pe]
        exact ⟨⟨t, o, t1, t2, n, rfl, ho, hc, hd⟩, t, rfl, ht⟩
      · exact q v hv
  | [], _ :: _, _, h, _ => h.elim
  | _ :: _, [], _, h, _ => h.elim
theorem leP_anti {p q : Int × Int} (h : leP p q = true) (h' : leP q p = true) : p = q := by
  unfold leP at h h'
  rw [Bool.not_eq_true'] at h h'
  have a := SrtO.lexB_no.mp h
  have b := SrtO.lexB_no.mp h'
  exact Prod.ext (by omega) (by omega)
theorem leP_trans {p q r : Int × Int} (h : leP p q = true) (h' : leP q r = true) : leP p r = true := by
  unfold leP at *
  rw [Bool.not_eq_true'] at *
  have a := SrtO.lexB_no.mp h
  have b := SrtO.lexB_no.mp h'
  exact SrtO.lexB_no.mpr (by omega)
theorem leP_total (p q : Int × Int) : (leP p q || leP q p) = true := by
  unfold leP
  cases h : SrtO.lexB q p
  · rfl
  · have a := SrtO.lexB_iff.mp h
    have b : SrtO.lexB p q = false := SrtO.lexB_no.mpr (by omega)
    rw [b]
    rfl
theorem prs_back {K : PySem.W.Frag} {H : Hp} {h : Heap} : ∀ {us : List Value}, (∀ u ∈ us, ∃ t, u = Value.ref t ∧ SqT K H t [.int (pairAt h u).1, .int (pairAt h u).2]) → prsOk K H (us.map backV) (us.map (pairAt h))
  | [], _ => trivial
  | u :: us, q => by
    obtain ⟨t, rfl, ht⟩ := q u List.mem_cons_self
    exact ⟨⟨t, rfl, ht⟩, prs_back fun v hv => q v (List.mem_cons_of_mem _ hv)⟩
theorem cr_sortedT {X : Cx} : CallR X (.builtin "sorted") (rSortedT X.K) := by
  intro pins s σ H vs us Q I r h
  obtain ⟨a, xs, ps, rfl, hs, hp, q⟩ := h
  obtain ⟨its, rv, hl, hz⟩ := I.list hs
  obtain ⟨u, rfl, ru⟩ := vals1 r
  obtain rfl : u = Value.ref a := ru
  obtain ⟨e1, e2⟩ := prs_vals I hp rv
  refine SrtO.sorted_pairsO (k := pairAt s.heap) hl.isList (by rw [← rv.length]; exact hz) (fun v hv => (e2 v hv).1) fun h' d out h1 h2 kp hd hn => ?_
  have h3 : ∀ u ∈ out, ∃ t, u = Value.ref t ∧ SqT X.K H t [.int (pairAt s.heap u).1, .int (pairAt s.heap u).2] := fun u hu => (e2 u (h2.perm.mem_iff.mp hu)).2
  have h4 : ∀ u ∈ out, ∃ a, u = Value.ref a := fun u hu => by
    obtain ⟨t, e, _⟩ := h3 u hu
    exact ⟨t, e⟩
  have e3 : out.map (pairAt s.heap) = srtP ps := by
    refine List.Perm.eq_of_pairwise (le := fun a b => leP a b = true) (fun a b _ _ h h' => leP_anti h h') ?_ (List.pairwise_mergeSort (le := leP) (fun a b c h h' => leP_trans h h') leP_total ps) ?_
    · refine List.pairwise_map.mpr (h1.imp fun {a b} h => ?_)
      have h' : SrtO.lexB (pairAt s.heap b) (pairAt s.heap a) = false := h
      show (!SrtO.lexB _ _) = true
      rw [h']
      rfl
    · have := h2.perm.map (pairAt s.heap)
      rw [e1] at this
      exact this.trans (List.mergeSort_perm ..).symm
  obtain ⟨n, hn⟩ := hn
  refine ⟨.ref d, upd H d (.lst (out.map backV)), I.laid (t' := s.toks) kp hd ⟨?_, out, n, vals_back h4, hn⟩, rfl, q _ d (by rw [← e3]; exact prs_back h3) (I.hok.fresh hd)⟩
  rw [List.length_map, h2.len, ← rv.length]
  exact hz
theorem pairs_rep : ∀ {xs : List T} {ps : List (Int × Int)} {vs : List V}, pairsOf xs = some ps → reps S g H xs vs → prsOk S.K H vs ps := by
  intro xs
  induction xs with
  | nil =>
    intro ps vs e h
    obtain rfl : [] = ps := Option.some.inj e
    obtain rfl : vs = [] := h
    trivial
  | cons x xs ih =>
    intro ps vs e h
    unfold pairsOf at e
    split at e
    · rename_i e0
      cases e0
    · rename_i i j r e0
      cases e0
      cases z : pairsOf xs with
      | none => rw [z] at e; cases e
      | some qs =>
        rw [z] at e
        obtain rfl : (i, j) :: qs = ps := Option.some.inj e
        obtain ⟨v, w, rfl, ⟨a, us, rfl, ha, _, hr⟩, h2⟩ := h
        obtain ⟨v1, v2, rfl, k1, k2⟩ := reps2 hr
        obtain rfl : v1 = .int i := k1
        obtain rfl : v2 = .int j := k2
        exact ⟨⟨a, rfl, ha⟩, ih z h2⟩
    · cases e
theorem reps_pairs : ∀ {vs : List V} {ps : List (Int × Int)}, prsOk S.K H vs ps → reps S g H (ps.map mkP) vs
  | [], [], _ => rfl
  | _ :: _, _ :: _, h => by
    obtain ⟨⟨t, rfl, ht⟩, h2⟩ := h
    exact ⟨_, _, rfl, ⟨t, _, rfl, ht, by show 2 ≤ 16777216; decide, _, _, rfl, rfl, _, _, rfl, rfl, rfl⟩, reps_pairs h2⟩
  | [], _ :: _, h => h.elim
  | _ :: _, [], h => h.elim
theorem pairsOf_len : ∀ {xs : List T} {ps : List (Int × Int)}, pairsOf xs = some ps → ps.length = xs.length := by
  intro xs
  induction xs with
  | nil =>
    intro ps e
    obtain rfl : [] = ps := Option.some.inj e
    rfl
  | cons x xs ih =>
    intro ps e
    unfold pairsOf at e
    split at e
    · rename_i e0
      cases e0
    · rename_i i j r e0
      cases e0
      cases z : pairsOf xs with
      | none => rw [z] at e; cases e
      | some qs =>
        rw [z] at e
        obtain rfl : (i, j) :: qs = ps := Option.some.inj e
        rw [List.length_cons, List.length_cons, ih z]
    · cases e
theorem sorted_ok (S : Sg) : CalB S (biT .sorted) (fun xs H Q => (rSortedI S.K xs H Q ∨ rSortedS S.K xs H Q) ∨ rSortedT S.K xs H Q) := by
  intro g m H xs vs Q W rl h p
  unfold biT at p
  split at p <;> first | exact p.elim | cases ‹BI.sorted = _› | skip
  obtain ⟨v, rfl, hv⟩ := reps1 h
  split at p
  · rename_i xs e
    obtain ⟨a, vs, rfl, k, r, l⟩ := lstOf_rep rl e hv
    split at p
    · rename_i ys ey
      unfold srtT at ey
      split at ey
      · rename_i ns en
        obtain rfl := Option.some.inj ey
        obtain rfl := ints_rep en r
        refine .inl (.inl ⟨a, ns, rfl, SqL.of k, fun ns' q h1 h2 hq => ?_⟩)
        rw [srtI_eq h1 h2]
        refine p.lst rl hq ?_ (reps_ints _)
        rw [List.length_map]
        have := (List.mergeSort_perm ns fun a b => decide (a ≤ b)).length_eq
        have l2 := reps_len r
        rw [List.length_map] at l2
        show (srtI ns).length ≤ _
        unfold srtI
        omega
      · split at ey
        · rename_i zs ez
          split at ey
          · rename_i lz
            obtain rfl := Option.some.inj ey
            obtain ⟨rfl, hz⟩ := strs_rep ez r
            refine .inl (.inr ⟨a, zs, rfl, SqL.of k, lz, fun ns' q h1 h2 hq => ?_⟩)
            rw [srtS_eq h1 h2]
            have pm := List.mergeSort_perm zs leStr
            refine p.lst rl hq ?_ (reps_strs _ fun x hx => hz x (pm.mem_iff.mp hx))
            rw [List.length_map]
            have := pm.length_eq
            show (srtS zs).length ≤ _
            unfold srtS
            omega
          · cases ey
        · cases ep : pairsOf xs with
          | none => rw [ep] at ey; cases ey
          | some ps =>
            rw [ep] at ey
            obtain rfl := Option.some.inj ey
            refine .inr ⟨a, vs, ps, rfl, SqL.of k, pairs_rep ep r, fun ys q hy hq => ?_⟩
            refine p.lst rl hq ?_ (reps_pairs hy)
            rw [List.length_map]
            have := (List.mergeSort_perm ps leP).length_eq
            have := pairsOf_len ep
            show (srtP ps).length ≤ _
            unfold srtP
            omega
    · exact p.elim
  · exact p.elim
/-- the built-ins' rules, all of them -/
theorem bi_ok {X : Cx} (S : Sg) (e : S.K = X.K) (b : BI) (hu : X.A.units + 65 < cLine) (hc : X.calm = true ∨ biHot b = true) : ∃ r, CallR X (biV b) r ∧ CalB S (biT b) r := by
  cases b
  case len => exact ⟨_, call_len_seq.or call_len_str, by rw [← e]; exact len_ok S⟩
  case abs => exact ⟨_, call_abs, abs_ok S⟩
  case max => exact ⟨_, (call_max2 (hc.resolve_right (fun z => nomatch z))).or (cr_max1 (hc.resolve_right (fun z => nomatch z)) hu), by rw [← e]; exact max_ok S⟩
  case min => exact ⟨_, call_min2 (hc.resolve_right (fun z => nomatch z)), min_ok S⟩
  case int => exact ⟨_, call_int1.or call_int_str, int_ok S⟩
  case list => exact ⟨_, call_list_of, by rw [← e]; exact list_ok S⟩
  case tuple => exact ⟨_, call_tuple_of, by rw [← e]; exact tuple_ok S⟩
  case all => exact ⟨_, cr_all (hc.resolve_right (fun z => nomatch z)), by rw [← e]; exact all_ok S⟩
  case any => exact ⟨_, cr_any (hc.resolve_right (fun z => nomatch z)), by rw [← e]; exact any_ok S⟩
  case divmod => exact ⟨_, call_divmodW, divmod_ok S⟩
  case sorted => exact ⟨_, (cr_sortedI.or cr_sortedS).or cr_sortedT, by rw [← e]; exact sorted_ok S⟩
  case str => exact ⟨_, (call_str_int.or SkE.call_str_str).or cr_str_non, str_ok S⟩
theorem bi_boot (b : BI) : bootBuiltins (Str.ofString (biN b)) = some (biV b) := by cases b <;> decide +kernel
end
end BV
/-! expressions: from trees to the model -/
namespace BV
open PySem PySem.Spec L2
abbrev sg (X : Cx) (tab : List (Str × List Str)) : Sg := ⟨X.K, X.mg, tab⟩
def lift (S : Sg) (z : Option Xz) (W : WX) (f : Sl → Sto → Rs T) : TE := fun σ H Q => ∃ g e m, Rel S g m H ∧ slotsOk S z g H e σ ∧ PoT S g H Q (fun c d H' => W c d σ H') (f e m)
def liftA (S : Sg) (z : Option Xz) (W : WX) (f : Sl → Sto → Rs (List T)) : TA := fun σ H Q => ∃ g e m, Rel S g m H ∧ slotsOk S z g H e σ ∧ Po S g H (fun g' H' ts _ => ∀ vs, reps S g' H' ts vs → Q vs H') (fun c d H' => W c d σ H') (f e m)
def liftT (S : Sg) (z : Option Xz) (W : WX) (f : Sl → Sto → Rs T) : TT := fun σ H Q => ∃ g e m, Rel S g m H ∧ slotsOk S z g H e σ ∧ Po S g H (fun _ H' t _ => ∃ b, t = .bl b ∧ Q b H') (fun c d H' => W c d σ H') (f e m)
def liftO (S : Sg) (z : Option Xz) (W : WX) (f : Sl → Sto → Rs (Option Int)) : TO := fun σ H Q => ∃ g e m, Rel S g m H ∧ slotsOk S z g H e σ ∧ Po S g H (fun _ H' o _ => Q o H') (fun c d H' => W c d σ H') (f e m)
theorem pe_w {X : Cx} {e : Expr} {t t' : TE} (h : PE X e t) (k : ∀ σ H Q, t' σ H Q → t σ H Q) : PE X e t' := ⟨fun pins s σ H Q I q => h.run pins s σ H Q I (k σ H Q q)⟩
theorem pa_w {X : Cx} {e : List Expr} {t t' : TA} (h : PA X e t) (k : ∀ σ H Q, t' σ H Q → t σ H Q) : PA X e t' := ⟨fun pos pins s σ H Q I q => h.run pos pins s σ H Q I (k σ H Q q)⟩
theorem pt_w {X : Cx} {e : Expr} {t t' : TT} (h : PT X e t) (k : ∀ σ H Q, t' σ H Q → t σ H Q) : PT X e t' := ⟨fun pins s σ H Q I q => h.run pins s σ H Q I (k σ H Q q)⟩
theorem pw_w {X : Cx} {e : Expr} {t t' : TT} (h : PW X e t) (k : ∀ σ H Q, t' σ H Q → t σ H Q) : PW X e t' := ⟨fun wh pins s σ H Q I q => h.run wh pins s σ H Q I (k σ H Q q)⟩
theorem po_w {X : Cx} {e : Option Expr} {t t' : TO} (h : PO X e t) (k : ∀ σ H Q, t' σ H Q → t σ H Q) : PO X e t' := ⟨fun pins s σ H Q I q => h.run pins s σ H Q I (k σ H Q q)⟩
section
variable {X : Cx} {tab : List (Str × List Str)} {z : Option Xz} {W : WX}
abbrev BE (X : Cx) (tab : List (Str × List Str)) (z : Option Xz) (W : WX) (e : Expr) (f : Sl → Sto → Rs T) : Prop := PE X e (lift (sg X tab) z W f)
abbrev BA (X : Cx) (tab : List (Str × List Str)) (z : Option Xz) (W : WX) (e : List Expr) (f : Sl → Sto → Rs (List T)) : Prop := PA X e (liftA (sg X tab) z W f)
abbrev BT (X : Cx) (tab : List (Str × List Str)) (z : Option Xz) (W : WX) (e : Expr) (f : Sl → Sto → Rs T) : Prop := PT X e (liftT (sg X tab) z W f)
abbrev BW (X : Cx) (tab : List (Str × List Str)) (z : Option Xz) (W : WX) (e : Expr) (f : Sl → Sto → Rs T) : Prop := PW X e (liftT (sg X tab) z W f)
abbrev BO (X : Cx) (tab : List (Str × List Str)) (z : Option Xz) (W : WX) (e : Option Expr) (f : Sl → Sto → Rs (Option Int)) : Prop := PO X e (liftO (sg X tab) z W f)
/-- the first part of a reading -/
theorem lift_go {S : Sg} {f : Sl → Sto → Rs T} {σ : L2.St} {H : Hp} {Q : VK} {g : Gh} {e : Sl} {m : Sto} {β : Type} {R : Gh → Hp → β → Sto → Prop} {k : T → Sto → Rs β}
    (rl : Rel S g m H) (so : slotsOk S z g H e σ) (p : Po S g H R (fun c d H' => W c d σ H') ((f e m).bind k))
    (h : ∀ g1 H1 x m1 v, Rel S g1 m1 H1 → slotsOk S z g1 H1 e σ → Stp g H g1 H1 → rep S g1 H1 x v → Po S g1 H1 R (fun c d H' => W c d σ H') (k x m1) → Q v H1) : lift S z W f σ H Q :=
  ⟨g, e, m, rl, so, Po.imp (Po.bind p) fun g1 H1 x m1 s1 r1 q v hv => h g1 H1 x m1 v r1 (slots_mono s1 so) s1 hv q.2.2⟩
theorem liftT_go {S : Sg} {f : Sl → Sto → Rs T} {σ : L2.St} {H : Hp} {Q : Bool → Hp → Prop} {g : Gh} {e : Sl} {m : Sto} {β : Type} {R : Gh → Hp → β → Sto → Prop} {k : T → Sto → Rs β}
    (rl : Rel S g m H) (so : slotsOk S z g H e σ) (p : Po S g H R (fun c d H' => W c d σ H') ((f e m).bind k)) (hb : ∀ t m', (∀ b, t ≠ .bl b) → k t m' = .bad)
    (h : ∀ g1 H1 b m1, Rel S g1 m1 H1 → slotsOk S z g1 H1 e σ → Stp g H g1 H1 → Po S g1 H1 R (fun c d H' => W c d σ H') (k (.bl b) m1) → Q b H1) : liftT S z W f σ H Q :=
  ⟨g, e, m, rl, so, Po.imp (Po.bind p) fun g1 H1 x m1 s1 r1 q => by
    by_cases c : ∃ b, x = .bl b
    · obtain ⟨b, rfl⟩ := c
      exact ⟨b, rfl, h g1 H1 b m1 r1 (slots_mono s1 so) s1 q.2.2⟩
    · have e := hb x m1 fun b z => c ⟨b, z⟩
      have q2 := q.2.2
      rw [e] at q2
      exact q2.elim⟩
theorem be_var {i : Nat} {x : Str} {pos : Pos} (h : PE X (.Name x pos) (tVar i)) : BE X tab z W (.Name x pos) (den (.var i)) := pe_w h fun σ H Q q => by
  obtain ⟨g, e, m, rl, so, p⟩ := q
  simp only [den] at p
  split at p
  · rename_i t ht
    obtain ⟨v, h1, h2⟩ := so.2.1 i t ht
    exact ⟨v, h1, PoT.now rl p h2⟩
  · exact p.elim
/-- a thing that needs no heap -/
def rep0 (K : PySem.W.Frag) (t : T) (v : V) : Prop := ∀ (S : Sg) (g : Gh) (H : Hp), S.K = K → rep S g H t v
theorem be_cst {e : Expr} {t : T} {v : V} (h : PE X e (tC v)) (r : rep0 X.K t v) : BE X tab z W e (den (.cst t)) := pe_w h fun σ H Q q => by
  obtain ⟨g, e, m, rl, so, p⟩ := q
  simp only [den] at p
  exact PoT.now rl p (r _ g H rfl)
theorem be_bin {a b : Expr} {fa fb : Sl → Sto → Rs T} {o : Operator} {pos : Pos} (ha : BE X tab z W a fa) (hb : BE X tab z W b fb) :
    BE X tab z W (.BinOp a o b pos) (fun e m => (fa e m).bind fun x m1 => (fb e m1).bind fun y m2 => binT o x y m2) := by
  obtain ⟨r, h1, h2⟩ := bin_ok (X := X) (sg X tab) rfl o
  refine pe_w (pe_op h1 ha hb) fun σ H Q ⟨g, e, m, rl, so, p⟩ => ?_
  refine lift_go rl so p fun g1 H1 x m1 v r1 so1 s1 hv p1 => ?_
  refine lift_go r1 so1 p1 fun g2 H2 y m2 u r2 so2 s2 hu p2 => ?_
  exact h2 g2 m2 H2 x y v u Q _ r2 (rep_mono s2 x v hv) hu p2
theorem be_neg {a : Expr} {fa : Sl → Sto → Rs T} {pos : Pos} (ha : BE X tab z W a fa) :
    BE X tab z W (.UnaryOp .USub a pos) (fun e m => (fa e m).bind fun x m1 => match x with | .int i => .ok (.int (-i)) m1 | _ => .bad) := by
  refine pe_w (pe_un un_neg ha) fun σ H Q ⟨g, e, m, rl, so, p⟩ => ?_
  refine lift_go rl so p fun g1 H1 x m1 v r1 so1 s1 hv p1 => ?_
  split at p1
  · exact ⟨_, hv, PoT.now r1 p1 rfl⟩
  · exact p1.elim
theorem mark_of {o : CmpOp} {b : Expr} (h : ∀ l k p, b ≠ .Set l k p) : behindInMarks o b = false := by
  cases b <;> first | rfl | exact absurd rfl (h _ _ _)
theorem be_cmp {a b : Expr} {fa fb : Sl → Sto → Rs T} {o : CmpOp} {pos : Pos} (hu : X.A.units + 65 < cLine) (hs : ∀ l k p, b ≠ .Set l k p) (ha : BE X tab z W a fa) (hb : BE X tab z W b fb) :
    BE X tab z W (.Compare a [o] [b] pos) (fun e m => (fa e m).bind fun x m1 => (fb e m1).bind fun y m2 => cmpT o x y m2) := by
  obtain ⟨r, h1, h2⟩ := cmp_ok (X := X) (sg X tab) rfl hu o
  refine pe_w (pe_cmpR h1 ha hb (mark_of hs)) fun σ H Q ⟨g, e, m, rl, so, p⟩ => ?_
  refine lift_go rl so p fun g1 H1 x m1 v r1 so1 s1 hv p1 => ?_
  refine lift_go r1 so1 p1 fun g2 H2 y m2 u r2 so2 s2 hu p2 => ?_
  exact h2 g2 m2 H2 x y v u Q _ r2 (rep_mono s2 x v hv) hu p2
theorem bt_cmp {a b : Expr} {fa fb : Sl → Sto → Rs T} {o : CmpOp} {pos : Pos} (hu : X.A.units + 65 < cLine) (hs : ∀ l k p, b ≠ .Set l k p) (ha : BE X tab z W a fa) (hb : BE X tab z W b fb) :
    BT X tab z W (.Compare a [o] [b] pos) (fun e m => (fa e m).bind fun x m1 => (fb e m1).bind fun y m2 => cmpT o x y m2) := by
  obtain ⟨r, h1, h2⟩ := cmp_ok (X := X) (sg X tab) rfl hu o
  refine pt_w (pt_cmpR h1 ha hb (mark_of hs)) fun σ H Q ⟨g, e, m, rl, so, p⟩ => ?_
  refine lift_go rl so p fun g1 H1 x m1 v r1 so1 s1 hv p1 => ?_
  refine lift_go r1 so1 p1 fun g2 H2 y m2 u r2 so2 s2 hu p2 => ?_
  refine h2 g2 m2 H2 x y v u (fun x H' => ∃ k, x = .bl k ∧ Q k H') _ r2 (rep_mono s2 x v hv) hu (Po.imp p2 fun g' H' t m' s' r' ⟨b, e, q⟩ w hw => ?_)
  subst e
  exact ⟨b, hw, q⟩
/-- a thing as a test -/
theorem bt_val {e : Expr} {f : Sl → Sto → Rs T} (h : BE X tab z W e f) (he : ∀ whole, isTrue e X.env whole = (do let v ← whole; standAt e.pos; holding [v] (truthy v))) : BT X tab z W e f :=
  pt_w (pt_val h he) fun σ H Q ⟨g, e, m, rl, so, p⟩ => ⟨g, e, m, rl, so, Po.imp p fun g' H' t m' s' r' ⟨b, e, q⟩ w hw => by
    subst e
    exact ⟨b, hw, q⟩⟩
theorem be_not {a : Expr} {fa : Sl → Sto → Rs T} {pos : Pos} (ha : BE X tab z W a fa) :
    BE X tab z W (.UnaryOp .Not a pos) (fun e m => (fa e m).bind fun x m1 => match x with | .bl i => .ok (.bl (!i)) m1 | _ => .bad) := by
  refine pe_w (pe_not ha) fun σ H Q ⟨g, e, m, rl, so, p⟩ => ?_
  refine lift_go rl so p fun g1 H1 x m1 v r1 so1 s1 hv p1 => ?_
  split at p1
  · exact ⟨_, hv, PoT.now r1 p1 rfl⟩
  · exact p1.elim
theorem bt_not {a : Expr} {fa : Sl → Sto → Rs T} {pos : Pos} (ha : BT X tab z W a fa) :
    BT X tab z W (.UnaryOp .Not a pos) (fun e m => (fa e m).bind fun x m1 => match x with | .bl i => .ok (.bl (!i)) m1 | _ => .bad) := by
  refine pt_w (pt_not ha) fun σ H Q ⟨g, e, m, rl, so, p⟩ => ?_
  refine liftT_go rl so p (fun t m' n => ?_) fun g1 H1 b m1 r1 so1 s1 p1 => ?_
  · cases t <;> first | rfl | exact absurd rfl (n _)
  · obtain ⟨b', e, q⟩ := p1 g1 H1 (Stp.refl _ _) r1
    cases e
    exact q
theorem be_and {a b : Expr} {rest : List Expr} {fa fb : Sl → Sto → Rs T} {pos : Pos} (ha : BE X tab z W a fa) (hb : BE X tab z W (.BoolOp .And (b :: rest) pos) fb) :
    BE X tab z W (.BoolOp .And (a :: b :: rest) pos) (fun e m => (fa e m).bind fun x m1 => match x with | .bl true => fb e m1 | .bl false => .ok (.bl false) m1 | _ => .bad) := by
  refine pe_w (pe_and ha hb) fun σ H Q ⟨g, e, m, rl, so, p⟩ => ?_
  refine lift_go rl so p fun g1 H1 x m1 v r1 so1 s1 hv p1 => ?_
  split at p1
  · exact ⟨true, hv, g1, e, m1, r1, so1, p1⟩
  · exact ⟨false, hv, PoT.now r1 p1 rfl⟩
  · exact p1.elim
theorem be_or {a b : Expr} {rest : List Expr} {fa fb : Sl → Sto → Rs T} {pos : Pos} (ha : BE X tab z W a fa) (hb : BE X tab z W (.BoolOp .Or (b :: rest) pos) fb) :
    BE X tab z W (.BoolOp .Or (a :: b :: rest) pos) (fun e m => (fa e m).bind fun x m1 => match x with | .bl true => .ok (.bl true) m1 | .bl false => fb e m1 | _ => .bad) := by
  refine pe_w (pe_or ha hb) fun σ H Q ⟨g, e, m, rl, so, p⟩ => ?_
  refine lift_go rl so p fun g1 H1 x m1 v r1 so1 s1 hv p1 => ?_
  split at p1
  · exact ⟨true, hv, PoT.now r1 p1 rfl⟩
  · exact ⟨false, hv, g1, e, m1, r1, so1, p1⟩
  · exact p1.elim
theorem bw_and {a b : Expr} {rest : List Expr} {fa fb : Sl → Sto → Rs T} {pos : Pos} (ha : BT X tab z W a fa) (hb : BW X tab z W (.BoolOp .And (b :: rest) pos) fb) :
    BW X tab z W (.BoolOp .And (a :: b :: rest) pos) (fun e m => (fa e m).bind fun x m1 => match x with | .bl true => fb e m1 | .bl false => .ok (.bl false) m1 | _ => .bad) := by
  refine pw_w (pw_and ha hb) fun σ H Q ⟨g, e, m, rl, so, p⟩ => ?_
  refine liftT_go rl so p (fun t m' n => ?_) fun g1 H1 b m1 r1 so1 s1 p1 => ?_
  · cases t <;> first | rfl | exact absurd rfl (n _)
  · cases b with
    | true => exact ⟨g1, e, m1, r1, so1, p1⟩
    | false =>
      obtain ⟨b', e, q⟩ := p1 g1 H1 (Stp.refl _ _) r1
      cases e
      exact q
theorem bw_or {a b : Expr} {rest : List Expr} {fa fb : Sl → Sto → Rs T} {pos : Pos} (ha : BT X tab z W a fa) (hb : BW X tab z W (.BoolOp .Or (b :: rest) pos) fb) :
    BW X tab z W (.BoolOp .Or (a :: b :: rest) pos) (fun e m => (fa e m).bind fun x m1 => match x with | .bl true => .ok (.bl true) m1 | .bl false => fb e m1 | _ => .bad) := by
  refine pw_w (pw_or ha hb) fun σ H Q ⟨g, e, m, rl, so, p⟩ => ?_
  refine liftT_go rl so p (fun t m' n => ?_) fun g1 H1 b m1 r1 so1 s1 p1 => ?_
  · cases t <;> first | rfl | exact absurd rfl (n _)
  · cases b with
    | true =>
      obtain ⟨b', e, q⟩ := p1 g1 H1 (Stp.refl _ _) r1
      cases e
      exact q
    | false => exact ⟨g1, e, m1, r1, so1, p1⟩
theorem be_ite {c a b : Expr} {fc fa fb : Sl → Sto → Rs T} {pos : Pos} (hc : BT X tab z W c fc) (ha : BE X tab z W a fa) (hb : BE X tab z W b fb) :
    BE X tab z W (.IfExp c a b pos) (fun e m => (fc e m).bind fun x m1 => match x with | .bl true => fa e m1 | .bl false => fb e m1 | _ => .bad) := by
  refine pe_w (pe_ifExp hc ha hb) fun σ H Q ⟨g, e, m, rl, so, p⟩ => ?_
  refine liftT_go rl so p (fun t m' n => ?_) fun g1 H1 b m1 r1 so1 s1 p1 => ?_
  · cases t <;> first | rfl | exact absurd rfl (n _)
  · cases b with
    | true => exact ⟨g1, e, m1, r1, so1, p1⟩
    | false => exact ⟨g1, e, m1, r1, so1, p1⟩
theorem be_chn {a b c : Expr} {fa fb fc : Sl → Sto → Rs T} {o o' : CmpOp} {pos : Pos} (hu : X.A.units + 65 < cLine)
    (hr : ∀ {r r' : R2}, OpR X (compareOp o) r → OpR X (compareOp o') r' → ∀ {ta tb tc : TE}, PE X a ta → PE X b tb → PE X c tc → PE X (.Compare a [o, o'] [b, c] pos) (tChain r r' ta tb tc))
    (ha : BE X tab z W a fa) (hb : BE X tab z W b fb) (hc : BE X tab z W c fc) :
    BE X tab z W (.Compare a [o, o'] [b, c] pos) (fun e m => (fa e m).bind fun x m1 => (fb e m1).bind fun y m2 => (cmpT o x y m2).bind fun k m3 => match k with | .bl true => (fc e m3).bind fun w m4 => cmpT o' y w m4 | .bl false => .ok (.bl false) m3 | _ => .bad) := by
  obtain ⟨r, h1, h2⟩ := cmp_ok (X := X) (sg X tab) rfl hu o
  obtain ⟨r', h1', h2'⟩ := cmp_ok (X := X) (sg X tab) rfl hu o'
  refine pe_w (hr h1 h1' ha hb hc) fun σ H Q ⟨g, e, m, rl, so, p⟩ => ?_
  refine lift_go rl so p fun g1 H1 x m1 v r1 so1 s1 hv p1 => ?_
  refine lift_go r1 so1 p1 fun g2 H2 y m2 u r2 so2 s2 hu p2 => ?_
  refine h2 g2 m2 H2 x y v u _ _ r2 (rep_mono s2 x v hv) hu (Po.imp (Po.bind p2) fun g3 H3 t m3 s3 r3 ⟨_, _, p3⟩ w hw => ?_)
  split at p3
  · refine ⟨true, hw, ?_⟩
    refine (show lift (sg X tab) z W fc σ H3 _ from lift_go r3 (slots_mono s3 so2) p3 fun g4 H4 w m4 q r4 so4 s4 hq p4 => ?_)
    exact h2' g4 m4 H4 y w u q Q _ r4 (rep_mono s4 y u (rep_mono s3 y u hu)) hq p4
  · exact ⟨false, hw, PoT.now r3 p3 rfl⟩
  · exact p3.elim
end
end BV
/-! displays, items, fields, calls -/
namespace BV
open PySem PySem.Spec L2
section
variable {X : Cx} {tab : List (Str × List Str)} {z : Option Xz} {W : WX}
theorem liftA_eq {S : Sg} {f : Sl → Sto → Rs (List T)} {σ : L2.St} {H : Hp} {Q : List V → Hp → Prop} {g : Gh} {e : Sl} {m : Sto} {β : Type} {R : Gh → Hp → β → Sto → Prop} {k : List T → Sto → Rs β}
    (rl : Rel S g m H) (so : slotsOk S z g H e σ) (p : Po S g H R (fun c d H' => W c d σ H') ((f e m).bind k))
    (h : ∀ g1 H1 x m1 v, f e m = .ok x m1 → Rel S g1 m1 H1 → slotsOk S z g1 H1 e σ → Stp g H g1 H1 → reps S g1 H1 x v → Po S g1 H1 R (fun c d H' => W c d σ H') (k x m1) → Q v H1) : liftA S z W f σ H Q :=
  ⟨g, e, m, rl, so, Po.imp (Po.bind p) fun g1 H1 x m1 s1 r1 q v hv => h g1 H1 x m1 v q.2.1 r1 (slots_mono s1 so) s1 hv q.2.2⟩
theorem ba_nil : BA X tab z W [] (fun _ m => .ok [] m) := pa_w pa_nil fun σ H Q ⟨g, e, m, rl, so, p⟩ => p g H (Stp.refl g H) rl [] rfl
theorem star_of {e : Expr} {es : List Expr} {env : Env} (h : ∀ x p, e ≠ .Starred x p) : starEach (e :: es) env = (false, eval e env) :: starEach es env := by
  cases e <;> first | rfl | exact absurd rfl (h _ _)
theorem ba_cons {a : Expr} {es : List Expr} {f : Sl → Sto → Rs T} {fs : Sl → Sto → Rs (List T)} (hs : ∀ x p, a ≠ .Starred x p) (ha : BE X tab z W a f) (hr : BA X tab z W es fs) :
    BA X tab z W (a :: es) (fun e m => (f e m).bind fun x m1 => (fs e m1).bind fun xs m2 => .ok (x :: xs) m2) := by
  refine pa_w (pa_cons ha hr (star_of hs)) fun σ H Q ⟨g, e, m, rl, so, p⟩ => ?_
  refine lift_go rl so p fun g1 H1 x m1 v r1 so1 s1 hv p1 => ?_
  refine liftA_eq r1 so1 p1 fun g2 H2 xs m2 vs _ r2 so2 s2 hvs p2 => ?_
  exact p2 g2 H2 (Stp.refl _ _) r2 _ ⟨v, vs, rfl, rep_mono s2 x v hv, hvs⟩
theorem denL_len : ∀ {l : List ME} {e : Sl} {m : Sto} {ts : List T} {m' : Sto}, denL l e m = .ok ts m' → ts.length = l.length
  | [], e, m, ts, m', h => by
    simp only [denL] at h
    injection h with h1 h2
    rw [← h1]
    rfl
  | a :: l, e, m, ts, m', h => by
    simp only [denL] at h
    cases q : den a e m with
    | bad => rw [q] at h; cases h
    | exc c xs m1 => rw [q] at h; cases h
    | ok x m1 =>
      rw [q] at h
      simp only [bind_ok] at h
      cases q2 : denL l e m1 with
      | bad => rw [q2] at h; cases h
      | exc c xs m2 => rw [q2] at h; cases h
      | ok xs m2 =>
        rw [q2] at h
        simp only [bind_ok] at h
        injection h with h1 h2
        rw [← h1, List.length_cons, List.length_cons, denL_len q2]
/-- a handle is laid -/
def addH (g : Gh) (p : Addr) : Gh := ⟨fun a => g.A a ∨ a = p, g.ph ++ [p], fun a h => by
  rcases List.mem_append.mp h with h | h
  · exact .inl (g.sub a h)
  · exact .inr (by simpa using h)⟩
theorem stp_addH {S : Sg} {g : Gh} {m : Sto} {H : Hp} {p : Addr} {o : HO} (rl : Rel S g m H) (hp : H p = none) : Stp g H (addH g p) (upd H p o) := by
  have e := ext_upd (o := o) hp
  refine ⟨⟨[p], rfl⟩, fun a u h n => ⟨e a u h, ⟨fun q => q.resolve_right fun z => ?_, .inl⟩⟩, fun a h => ?_, fun a xs h => e a _ h, fun a o u h => e a _ h, fun a h n q => ?_⟩
  · subst z; rw [hp] at h; cases h
  · cases q : H a with
    | none => exact absurd q h
    | some u => rw [e a u q]; exact fun z => nomatch z
  · rcases List.mem_append.mp q with q | q
    · exact n q
    · have z : a = p := by simpa using q
      subst z
      exact h hp
theorem rel_addH {S : Sg} {g : Gh} {m : Sto} {H : Hp} {p : Addr} {o : HO} {c : Cell} (rl : Rel S g m H) (hp : H p = none) (hc : cellOk S (addH g p) (upd H p o) p c) : Rel S (addH g p) (m ++ [c]) (upd H p o) := by
  have st := stp_addH (o := o) rl hp
  have np : p ∉ g.ph := fun h => rl.fresh hp (g.sub p h)
  refine ⟨?_, ?_, fun a h => ?_, fun n a c' h1 h2 => ?_⟩
  · show (g.ph ++ [p]).length = (m ++ [c]).length
    rw [List.length_append, List.length_append, rl.len]
    rfl
  · show (g.ph ++ [p]).Nodup
    refine List.nodup_append.mpr ⟨rl.nd, by simp, fun a ha b hb q => ?_⟩
    have z : b = p := by simpa using hb
    subst z
    subst q
    exact np ha
  · rcases h with h | h
    · exact st.hs a (rl.has a h)
    · subst h
      rw [upd_same]
      exact fun z => nomatch z
  · have h1' : (g.ph ++ [p])[n]? = some a := h1
    by_cases hn : n < g.ph.length
    · rw [List.getElem?_append_left hn] at h1'
      rw [List.getElem?_append_left (by rw [← rl.len]; exact hn)] at h2
      have ha : a ∈ g.ph := List.mem_of_getElem? h1'
      exact cell_mono st (fun u h => by rw [upd_ne (fun (z : a = p) => np (by rw [← z]; exact ha))]; exact h) (rl.cell n a c' h1' h2)
    · have hl : n = g.ph.length := by
        have := (List.getElem?_eq_some_iff.mp h1').1
        rw [List.length_append] at this
        have : n < g.ph.length + 1 := this
        omega
      subst hl
      rw [List.getElem?_append_right (Nat.le_refl _), Nat.sub_self] at h1'
      rw [rl.len, List.getElem?_append_right (Nat.le_refl _), Nat.sub_self] at h2
      have e1 : p = a := by simpa using h1'
      have e2 : c = c' := by simpa using h2
      subst e1
      subst e2
      exact hc
/-- a list just made, frozen or at a handle -/
def mq (b : Bool) (r : Rs T) : Rs T := if b then toM r else r
theorem PoT.lstM {S : Sg} {g : Gh} {m : Sto} {H : Hp} {Q : VK} {W' : Value → Option Addr → Hp → Prop} {p : Addr} {xs : List T} {vs : List V} {b : Bool} (rl : Rel S g m H) (hp : H p = none) (h : PoT S g H Q W' (mq b (.ok (.lst xs) m))) (l : xs.length ≤ 16777216) (r : reps S g H xs vs) : Q (.ref p) (upd H p (.lst vs)) := by
  cases b with
  | false => exact PoT.lst rl hp h l r
  | true =>
    have st := stp_addH (o := .lst vs) rl hp
    refine h (addH g p) _ st (rel_addH rl hp ⟨vs, upd_same, l, reps_mono st _ _ r⟩) (.ref p) ⟨p, rfl, ?_⟩
    show (g.ph ++ [p])[m.length]? = some p
    rw [← rl.len, List.getElem?_append_right (Nat.le_refl _), Nat.sub_self]
    rfl
theorem mq_bind {α : Type} (b : Bool) (r : Rs α) (k : α → Sto → Rs T) : mq b (r.bind k) = r.bind fun a m => mq b (k a m) := by
  cases b
  · rfl
  · cases r <;> rfl
theorem be_lst {es : List Expr} {l : List ME} {pos : Pos} (b : Bool) (hl : l.length ≤ 1000) (h : BA X tab z W es (denL l)) : BE X tab z W (.List es pos) (fun e m => mq b (den (.lst l) e m)) := by
  refine pe_w (pe_lst h) fun σ H Q ⟨g, e, m, rl, so, p⟩ => ?_
  simp only [den, mq_bind] at p
  refine liftA_eq rl so p fun g1 H1 x m1 v eq r1 so1 s1 hv p1 => ?_
  have lx := denL_len eq
  refine ⟨by rw [sizeL, reps_len hv]; omega, fun q hq => ?_⟩
  exact PoT.lstM r1 hq p1 (by omega) hv
theorem be_tup {es : List Expr} {l : List ME} {k : Nat} {pos : Pos} (hl : l.length ≤ 1000) (h : BA X tab z W es (denL l)) : BE X tab z W (.Tuple es k pos) (den (.tup l)) := by
  refine pe_w (pe_tup h) fun σ H Q ⟨g, e, m, rl, so, p⟩ => ?_
  simp only [den] at p
  refine liftA_eq rl so p fun g1 H1 x m1 v eq r1 so1 s1 hv p1 => ?_
  have lx := denL_len eq
  refine ⟨by rw [sizeL, reps_len hv]; omega, fun q hq => ?_⟩
  exact PoT.tup r1 hq p1 (by omega) hv
theorem plainIx_of {b : Expr} (h : ∀ l u s p, b ≠ .Slice l u s p) : PlainIx b := by
  intro o i
  cases b <;> first | rfl | exact absurd rfl (h _ _ _ _)
theorem be_idx {a b : Expr} {fa fb : Sl → Sto → Rs T} {pos : Pos} (hu : X.A.units + 1 < cLine) (hs : PlainIx b) (ha : BE X tab z W a fa) (hb : BE X tab z W b fb) :
    BE X tab z W (.Subscript a b pos) (fun e m => (fa e m).bind fun x m1 => (fb e m1).bind fun y m2 => idxT x y m2) := by
  refine pe_w (pe_ix (ix_seq.or (ix_dic hu)) ha hb hs) fun σ H Q ⟨g, e, m, rl, so, p⟩ => ?_
  refine lift_go rl so p fun g1 H1 x m1 v r1 so1 s1 hv p1 => ?_
  refine lift_go r1 so1 p1 fun g2 H2 y m2 u r2 so2 s2 hu p2 => ?_
  exact idxT_ok (sg X tab) g2 m2 H2 x y v u Q _ r2 (rep_mono s2 x v hv) hu p2
theorem bo_none : BO X tab z W none (fun _ m => .ok none m) := po_w po_none fun σ H Q ⟨g, e, m, rl, so, p⟩ => p g H (Stp.refl g H) rl
theorem bo_some {a : Expr} {f : Sl → Sto → Rs T} (h : BE X tab z W a f) : BO X tab z W (some a) (fun e m => (f e m).bind fun x m1 => match x with | .int i => .ok (some i) m1 | _ => .bad) := by
  refine po_w (po_some h) fun σ H Q ⟨g, e, m, rl, so, p⟩ => ?_
  refine lift_go rl so p fun g1 H1 x m1 v r1 so1 s1 hv p1 => ?_
  split at p1
  · exact ⟨_, hv, p1 g1 H1 (Stp.refl _ _) r1⟩
  · exact p1.elim
theorem liftO_go {S : Sg} {f : Sl → Sto → Rs (Option Int)} {σ : L2.St} {H : Hp} {Q : Option Int → Hp → Prop} {g : Gh} {e : Sl} {m : Sto} {β : Type} {R : Gh → Hp → β → Sto → Prop} {k : Option Int → Sto → Rs β}
    (rl : Rel S g m H) (so : slotsOk S z g H e σ) (p : Po S g H R (fun c d H' => W c d σ H') ((f e m).bind k))
    (h : ∀ g1 H1 x m1, Rel S g1 m1 H1 → slotsOk S z g1 H1 e σ → Stp g H g1 H1 → Po S g1 H1 R (fun c d H' => W c d σ H') (k x m1) → Q x H1) : liftO S z W f σ H Q :=
  ⟨g, e, m, rl, so, Po.imp (Po.bind p) fun g1 H1 x m1 s1 r1 q => h g1 H1 x m1 r1 (slots_mono s1 so) s1 q.2.2⟩
theorem be_slc {a : Expr} {lo hi : Option Expr} {fa : Sl → Sto → Rs T} {fl fh : Sl → Sto → Rs (Option Int)} {pos p2 : Pos} (ha : BE X tab z W a fa) (hl : BO X tab z W lo fl) (hh : BO X tab z W hi fh) :
    BE X tab z W (.Subscript a (.Slice lo hi none p2) pos) (fun e m => (fa e m).bind fun x m1 => (fl e m1).bind fun l m2 => (fh e m2).bind fun h m3 => slcT x l h m3) := by
  refine pe_w (pe_slice sl_z ha hl hh) fun σ H Q ⟨g, e, m, rl, so, p⟩ => ?_
  refine lift_go rl so p fun g1 H1 x m1 v r1 so1 s1 hv p1 => ?_
  refine liftO_go r1 so1 p1 fun g2 H2 y m2 r2 so2 s2 p2 => ?_
  refine liftO_go r2 so2 p2 fun g3 H3 w m3 r3 so3 s3 p3 => ?_
  exact slcT_ok r3 (rep_mono (s2.trans s3) x v hv) p3
/-! ### built-ins -/
theorem be_bi {x : Str} {p pos : Pos} {a : Expr} {es : List Expr} {f : Sl → Sto → Rs (List T)} (b : BI) (hu : X.A.units + 65 < cLine) (hc : X.calm = true ∨ biHot b = true) (hx : x = Str.ofString (biN b)) (hg : Gl X x) (hm : X.mg x = none) (hs : ∀ x p, a ≠ .Starred x p)
    (hpl : (backTo pos (starEach es X.env)).any (·.1) = false) (h : BA X tab z W (a :: es) f) :
    BE X tab z W (.Call (.Name x p) (a :: es) [] pos) (fun e m => (f e m).bind fun ts m' => biT b ts m') := by
  obtain ⟨r, h1, h2⟩ := bi_ok (X := X) (sg X tab) rfl b hu hc
  have hv : bootBuiltins x = some (biV b) := by rw [hx]; exact bi_boot b
  have hn : x ≠ "__name__" := by rw [hx]; cases b <;> decide +kernel
  have hd : (x == ("__debug__" : Str)) = false := by rw [hx]; cases b <;> decide +kernel
  have key : PE X (.Call (.Name x p) (a :: es) [] pos) (tCB r (liftA (sg X tab) z W f)) := by
    cases q : biC b with
    | true =>
      have e : biV b = .type (biN b) := by unfold biV; rw [q]; rfl
      rw [e] at h1 hv
      exact pe_callTy h1 hg hm hv h hn hd (star_of hs) hpl
    | false =>
      have e : biV b = .builtin (biN b) := by unfold biV; rw [q]; rfl
      rw [e] at h1 hv
      exact pe_callB h1 hg hm hv h hn hd (star_of hs) hpl
  refine pe_w key fun σ H Q ⟨g, e, m, rl, so, p⟩ => ?_
  refine liftA_eq rl so p fun g1 H1 x m1 v eq r1 so1 s1 hv p1 => ?_
  exact h2 g1 m1 H1 x v Q _ r1 hv p1
/-- max(xs, default=None) -/
theorem be_mxd {p pos p2 p3 : Pos} {j : _} {a : Expr} {f : Sl → Sto → Rs T} (hu : X.A.units + 65 < cLine) (hc : X.calm = true) (hg : Gl X (Str.ofString "max")) (hm : X.mg (Str.ofString "max") = none) (hs : ∀ x p, a ≠ .Starred x p) (h : BE X tab z W a f) :
    BE X tab z W (.Call (.Name (Str.ofString "max") p) [a] [⟨some (Str.ofString "default"), .Constant .none j p2, p3⟩] pos) (fun e m => (f e m).bind fun t m1 => mxdT t m1) := by
  refine pe_w (pe_callBK (cr_maxd hc hu) hg hm (by decide +kernel) (pa_cons h pa_nil (star_of hs)) (pk_cons pe_non pk_nil) (by decide +kernel) (by decide +kernel) (by rw [star_of hs]; rfl) (by rw [star_of hs]; rfl) rfl rfl rfl) fun σ H Q ⟨g, e, m, rl, so, p⟩ => ?_
  refine lift_go rl so p fun g1 H1 x m1 v r1 so1 s1 hv p1 => ?_
  unfold mxdT at p1
  split at p1
  · rename_i e1
    obtain ⟨b, vs, rfl, k, r, l⟩ := lstOf_rep r1 e1 hv
    obtain rfl : vs = [] := r
    exact ⟨b, [], .non, [], rfl, rfl, SqL.of k, .nil, ⟨(fun _ h => nomatch h), (fun _ h => nomatch h)⟩, by simp [PyData.depthAll], (fun _ => PoT.now r1 p1 rfl), (fun _ _ _ _ e => nomatch e)⟩
  · rename_i y ys e1
    obtain ⟨b, vs, rfl, k, r, l⟩ := lstOf_rep r1 e1 hv
    split at p1
    · rename_i w ew
      obtain ⟨d, ds, h1, h2, h3, h4⟩ := mx_rep ew r
      exact ⟨b, vs, .non, d :: ds, rfl, rfl, SqL.of k, h1, h2, h3, (fun e => nomatch e), fun d' ds' i v e hv hm => by
        cases e
        exact PoT.now r1 p1 (h4 i v hv hm)⟩
    · exact p1.elim
  · exact p1.elim
/-! ### methods of texts -/
def smN : SM → String
  | .index => "index" | .find => "find" | .starts => "startswith" | .split => "split" | .part => "partition" | .join => "join"
def smId : SM → String
  | .index => "str.index" | .find => "str.find" | .starts => "str.startswith" | .split => "str.split" | .part => "str.partition" | .join => "str.join"
theorem str_tail {S : Sg} {g : Gh} {H : Hp} {b : Str} {vs : List V} (h : reps S g H [.str b] vs) : vs = [.str b] ∧ b.length ≤ 16777216 := by
  obtain ⟨v, rfl, hv⟩ := reps1 h
  exact ⟨by rw [hv.1], hv.2⟩
theorem okS_mem {xs : List Str} (h : okS xs = true) : ∀ x ∈ xs, x.length ≤ 16777216 := fun x hx => by simpa using List.all_eq_true.mp h x hx
theorem sm_ok {X : Cx} (S : Sg) (e : S.K = X.K) (k : SM) : ∃ r, MtR X (smId k) r ∧
    ∀ (g : Gh) (m : Sto) (H : Hp) (a : Str) (xs : List T) (vs : List V) (Q : VK) (W : Value → Option Addr → Hp → Prop), Rel S g m H → reps S g H xs vs → PoT S g H Q W (smT k a xs m) → r (.str a) vs H Q := by
  cases k
  case index =>
    refine ⟨_, mt_sindex, fun g m H a xs vs Q W rl h p => ?_⟩
    unfold smT at p
    split at p <;> first | exact p.elim | cases ‹SM.index = _› | skip
    obtain ⟨rfl, l⟩ := str_tail h
    split at p
    · rename_i i rest eo
      exact ⟨_, _, i, rest, rfl, rfl, eo, PoT.now rl p rfl⟩
    · exact p.elim
  case find =>
    refine ⟨_, mt_find, fun g m H a xs vs Q W rl h p => ?_⟩
    unfold smT at p
    split at p <;> first | exact p.elim | cases ‹SM.find = _› | skip
    obtain ⟨rfl, l⟩ := str_tail h
    exact ⟨_, _, rfl, rfl, PoT.now rl p rfl⟩
  case starts =>
    refine ⟨_, mt_startswith, fun g m H a xs vs Q W rl h p => ?_⟩
    unfold smT at p
    split at p <;> first | exact p.elim | cases ‹SM.starts = _› | skip
    obtain ⟨rfl, l⟩ := str_tail h
    exact ⟨_, _, rfl, rfl, PoT.now rl p rfl⟩
  case split =>
    refine ⟨_, mt_split, fun g m H a xs vs Q W rl h p => ?_⟩
    unfold smT at p
    split at p <;> first | exact p.elim | cases ‹SM.split = _› | skip
    obtain ⟨rfl, l⟩ := str_tail h
    split at p
    · rename_i c
      refine ⟨_, _, rfl, rfl, c.1, by rw [sizeL]; omega, fun q hq => ?_⟩
      exact p.lst rl hq (by rw [List.length_map]; exact c.2.2.2) (reps_strs _ (okS_mem c.2.2.1))
    · exact p.elim
  case part =>
    refine ⟨_, mt_partition, fun g m H a xs vs Q W rl h p => ?_⟩
    unfold smT at p
    split at p <;> first | exact p.elim | cases ‹SM.part = _› | skip
    obtain ⟨rfl, l⟩ := str_tail h
    split at p
    · rename_i c
      refine ⟨_, _, rfl, rfl, c.1, by rw [sizeL]; omega, fun q hq => ?_⟩
      exact p.tup rl hq (by show 3 ≤ 16777216; decide) (reps_strs [_, _, _] (okS_mem c.2.2))
    · exact p.elim
  case join =>
    refine ⟨_, mt_join, fun g m H a xs vs Q W rl h p => ?_⟩
    unfold smT at p
    split at p <;> first | exact p.elim | cases ‹SM.join = _› | skip
    obtain ⟨v, rfl, hv⟩ := reps1 h
    split at p
    · rename_i xs e1
      split at p
      · rename_i ys e2
        split at p
        · rename_i c
          obtain ⟨b, ws, rfl, k, r, l⟩ := seqOf_rep rl e1 hv
          obtain ⟨rfl, hz⟩ := strs_rep e2 r
          refine ⟨_, _, ys, rfl, rfl, by rw [← e]; exact k, c.1, PoT.now rl p ⟨rfl, c.2⟩⟩
        · exact p.elim
      · exact p.elim
    · exact p.elim
theorem slot_sm (k : SM) : Slot "str" (Str.ofString (smN k)) (smId k) := by
  cases k
  · exact F.slot_str_index
  · exact F.slot_str_find
  · exact F.slot_str_startswith
  · exact F.slot_str_split
  · exact F.slot_str_partition
  · exact F.slot_str_join
theorem type_sm (k : SM) : typeOf (.builtin (smId k)) = pure (.type "method_descriptor") := by
  cases k <;> (show builtinType _ = _; rw [builtinType_eq_fast]; kernel_rfl)
theorem be_sm {o a : Expr} {es : List Expr} {fo : Sl → Sto → Rs T} {f : Sl → Sto → Rs (List T)} {apos cpos : Pos} (k : SM) (ho : BE X tab z W o fo) (ha : BA X tab z W (a :: es) f)
    (hbase : attributeBase o (Str.ofString (smN k)) X.env (eval o X.env) = eval o X.env)
    (hfew : ((backTo cpos (starEach (a :: es) X.env)).all (fun x => !x.1) && (backToKw cpos (keywordEach [] X.env)).all (fun x => x.1.isSome)
      && decide ((a :: es).length + ([] : List Keyword).length + (if ([] : List Keyword).isEmpty then 0 else 1) < 30)) = true)
    (hline : (apos.endLine == cpos.line) = true) (hs : starEach (a :: es) X.env = (false, eval a X.env) :: starEach es X.env) (hplain : (backTo cpos (starEach es X.env)).any (·.1) = false) :
    BE X tab z W (.Call (.Attribute o (Str.ofString (smN k)) apos) (a :: es) [] cpos) (fun e m => (fo e m).bind fun x m1 => match x with
      | .str t => (f e m1).bind fun ts m2 => smT k t ts m2
      | _ => .bad) := by
  obtain ⟨r, h1, h2⟩ := sm_ok (X := X) (sg X tab) rfl k
  refine pe_w (pe_bm F.plainAttrs_str (slot_sm k) (type_sm k) h1 ho ha hbase hfew hline hs hplain) fun σ H Q ⟨g, e, m, rl, so, p⟩ => ?_
  refine lift_go rl so p fun g1 H1 x m1 v r1 so1 s1 hv p1 => ?_
  cases x with
  | str t =>
    obtain ⟨rfl, lt⟩ := hv
    refine ⟨rfl, ?_⟩
    refine liftA_eq r1 so1 p1 fun g2 H2 y m2 u eq r2 so2 s2 hu p2 => ?_
    exact h2 g2 m2 H2 t y u Q _ r2 hu p2
  | _ => exact p1.elim
/-! ### isinstance -/
theorem be_isi {a : Expr} {f : Sl → Sto → Rs T} {c : Ty} {p p1 pos : Pos} (hg : Gl X "isinstance") (hm : X.mg "isinstance" = none) (hgc : Gl X (Str.ofString (tyN c))) (hmc : X.mg (Str.ofString (tyN c)) = none) (hs : ∀ x p, a ≠ .Starred x p) (h : BE X tab z W a f) :
    BE X tab z W (.Call (.Name "isinstance" p) [a, .Name (Str.ofString (tyN c)) p1] [] pos) (fun e m => (f e m).bind fun x m1 => match tyIs x m1 c with | some b => .ok (.bl b) m1 | none => .bad) := by
  have hc : PE X (.Name (Str.ofString (tyN c)) p1) (tC (.ty (tyN c))) := pe_bltn (u := .type (tyN c)) hgc hmc (by cases c <;> decide +kernel) rfl (by cases c <;> decide +kernel) (by cases c <;> decide +kernel)
  refine pe_w (pe_callB call_isi hg hm (by decide +kernel) (pa_cons h (pa_cons hc pa_nil) (star_of hs)) (by decide) (by decide) (star_of hs) rfl) fun σ H Q ⟨g, e, m, rl, so, p⟩ => ?_
  refine lift_go rl so p fun g1 H1 x m1 v r1 so1 s1 hv p1 => ?_
  split at p1
  · rename_i b eb
    exact isi_ok r1 eb hv (PoT.now r1 p1 rfl)
  · exact p1.elim
theorem pa_tys : ∀ {es : List Expr} {cs : List Ty}, Paired (fun e c => ∃ p, e = .Name (Str.ofString (tyN c)) p ∧ Gl X (Str.ofString (tyN c)) ∧ X.mg (Str.ofString (tyN c)) = none) es cs →
    PA X es (fun _ H Q => Q (cs.map fun c => V.ty (tyN c)) H)
  | _, _, .nil => pa_nil
  | _, c :: cs, .cons h t => by
    obtain ⟨p, rfl, hgc, hmc⟩ := h
    have hc : PE X (.Name (Str.ofString (tyN c)) p) (tC (.ty (tyN c))) := pe_bltn (u := .type (tyN c)) hgc hmc (by cases c <;> decide +kernel) rfl (by cases c <;> decide +kernel) (by cases c <;> decide +kernel)
    exact pa_cons hc (pa_tys t)
theorem be_isn {a : Expr} {f : Sl → Sto → Rs T} {es : List Expr} {c : Ty} {cs : List Ty} {p p1 pos : Pos} {k : Nat} (hg : Gl X "isinstance") (hm : X.mg "isinstance" = none)
    (hes : Paired (fun e c => ∃ p, e = .Name (Str.ofString (tyN c)) p ∧ Gl X (Str.ofString (tyN c)) ∧ X.mg (Str.ofString (tyN c)) = none) es (c :: cs)) (hl : cs.length ≤ 1000) (hs : ∀ x p, a ≠ .Starred x p) (h : BE X tab z W a f) :
    BE X tab z W (.Call (.Name "isinstance" p) [a, .Tuple es k p1] [] pos) (fun e m => (f e m).bind fun x m1 => match tyAny x m1 (c :: cs) with | some b => .ok (.bl b) m1 | none => .bad) := by
  refine pe_w (pe_callB call_isiT hg hm (by decide +kernel) (pa_cons h (pa_cons (pe_tup (pa_tys hes)) pa_nil) (star_of hs)) (by decide) (by decide) (star_of hs) rfl) fun σ H Q ⟨g, e, m, rl, so, p⟩ => ?_
  refine lift_go rl so p fun g1 H1 x m1 v r1 so1 s1 hv p1 => ?_
  refine ⟨by rw [sizeL, List.length_map]; show cs.length + 1 ≤ _; omega, fun q hq => ?_⟩
  split at p1
  · rename_i b eb
    have ex := ext_upd (o := .tup ((c :: cs).map fun c => V.ty (tyN c))) hq
    exact isn_ok (r1.ext ex) eb (rep_mono (Stp.ext ex) _ _ hv) upd_same (PoT.now (r1.ext ex) (Po.later (Stp.ext ex) p1) rfl)
  · exact p1.elim
/-! ### fields -/
def FldOk (X : Cx) (tab : List (Str × List Str)) (f : Str) (fs : List (Nat × Nat)) : Prop :=
  ∀ c i, fs.lookup c = some i → ∃ n ks, tab[c]? = some (n, ks) ∧ ks[i]? = some f ∧ ks.Nodup ∧ ks.length ≤ 900 ∧ ∀ C, X.mg n = some (.ref C) → Cls X.K C ∧ NoAttr X.K C f
theorem look_ix : ∀ {fvs : List (Str × V)} {ks : List Str} {i : Nat} {f : Str} {v : V}, ks.Nodup → fvs.map (·.1) = ks.take fvs.length → ks[i]? = some f → (fvs.map (·.2))[i]? = some v → fvs.lookup f = some v
  | [], ks, i, f, v, _, _, _, h => by simp at h
  | (k, w) :: r, [], i, f, v, _, h, _, _ => by simp at h
  | (k, w) :: r, k' :: ks, 0, f, v, nd, h, h1, h2 => by
    have e1 : k' = f := by simpa using h1
    have e2 : w = v := by simpa using h2
    have e3 : k = k' := by
      simp only [List.map_cons, List.length_cons, List.take_succ_cons] at h
      exact (List.cons.inj h).1
    subst e1 e2 e3
    simp [List.lookup]
  | (k, w) :: r, k' :: ks, i + 1, f, v, nd, h, h1, h2 => by
    simp only [List.map_cons, List.length_cons, List.take_succ_cons] at h
    obtain ⟨e3, h'⟩ := List.cons.inj h
    have h1' : ks[i]? = some f := by simpa using h1
    have h2' : (r.map (·.2))[i]? = some v := by simpa using h2
    have nd' := List.nodup_cons.mp nd
    have ih := look_ix nd'.2 h' h1' h2'
    have ne : (f == k) = false := by
      rw [beq_eq_false_iff_ne, e3]
      intro q
      exact nd'.1 (by rw [← q]; exact List.mem_of_getElem? h1')
    rw [List.lookup_cons, ne]
    exact ih
theorem clsOf_rep {S : Sg} {g : Gh} {m : Sto} {H : Hp} {t : T} {v : V} {c : Nat} {xs : List T} (rl : Rel S g m H) (e : clsOf m t = some (c, xs)) (h : rep S g H t v) :
    ∃ a C dx fvs n ks, v = .ref a ∧ S.tab[c]? = some (n, ks) ∧ S.mg n = some (.ref C) ∧ H a = some (.ins C dx fvs) ∧ fvs.map (·.1) = ks.take fvs.length ∧ reps S g H xs (fvs.map (·.2)) := by
  unfold clsOf at e
  split at e
  · rename_i c' xs'
    obtain ⟨rfl, rfl⟩ := Prod.mk.inj (Option.some.inj e)
    obtain ⟨a, C, dx, fvs, n, ks, h1, _, h2, h3, h4, h5, h6⟩ := h
    exact ⟨a, C, dx, fvs, n, ks, h1, h2, h3, h4, h5, h6⟩
  · rename_i n'
    split at e
    · rename_i c' xs' hn
      obtain ⟨rfl, rfl⟩ := Prod.mk.inj (Option.some.inj e)
      obtain ⟨a, rfl, ha⟩ := h
      obtain ⟨C, dx, fvs, n, ks, h1, h2, h3, h4, h5⟩ := rl.cell n' a _ ha hn
      exact ⟨a, C, dx, fvs, n, ks, rfl, h1, h2, h3, h4, h5⟩
    · cases e
  · cases e
theorem be_fld {o : Expr} {f : Str} {fo : Sl → Sto → Rs T} {fs : List (Nat × Nat)} {pos : Pos} (ok : FldOk X tab f fs) (hb : attributeBase o f X.env (eval o X.env) = eval o X.env) (h : BE X tab z W o fo) :
    BE X tab z W (.Attribute o f pos) (fun e m => (fo e m).bind fun x m1 => fldT fs x m1) := by
  refine pe_w (pe_fld h hb) fun σ H Q ⟨g, e, m, rl, so, p⟩ => ?_
  refine lift_go rl so p fun g1 H1 x m1 v r1 so1 s1 hv p1 => ?_
  unfold fldT at p1
  split at p1
  · rename_i c xs ec
    split at p1
    · rename_i i ei
      split at p1
      · rename_i t et
        obtain ⟨a, C, dx, fvs, n, ks, rfl, k1, k2, k3, k4, k5⟩ := clsOf_rep r1 ec hv
        obtain ⟨n', ks', q1, q2, q3, q4, q5⟩ := ok c i ei
        have k1' : tab[c]? = some (n, ks) := k1
        rw [q1] at k1'
        obtain ⟨rfl, rfl⟩ := Prod.mk.inj (Option.some.inj k1')
        obtain ⟨w, w1, w2⟩ := reps_get k5 et
        obtain ⟨cl, na⟩ := q5 C k2
        exact ⟨a, C, dx, fvs, w, rfl, k3, cl, na, look_ix q3 k4 q2 w1, PoT.now r1 p1 w2⟩
      · exact p1.elim
    · exact p1.elim
  · exact p1.elim
/-! ### calls -/
/-- the promise of a def that does what f says -/
def spB (S : Sg) (f : Fn) : Sp := fun vs H Q E => ∃ g m ts, Rel S g m H ∧ reps S g H ts vs ∧ PoT S g H Q E (f ts m)
/-- a def of the text that does what f says, by n arguments -/
structure FnB (X : Cx) (tab : List (Str × List Str)) (k : Nat) (a : Addr) (n : Nat) (f : Fn) : Prop where
  ok : ∃ fd ps, ps.length = n ∧ FnOk X.prog X.w X.K X.mg X.base (L2.CX X.prog X.w) k a fd ps (spB (sg X tab) f) ∧ Binds X.K fd ps []
theorem be_call {x : Str} {p pos : Pos} {a : Expr} {es : List Expr} {fl : Sl → Sto → Rs (List T)} {f : Fn} {k n : Nat} {ad : Addr} (tk : Takes X W) (hr : Room k X.A) (hg : Gl X x) (hm : X.mg x = some (.ref ad)) (hk : PySem.W.keepIn X.K (.ref ad) = true)
    (F : FnB X tab k ad n f) (hd : (x == ("__debug__" : Str)) = false) (hs : ∀ x p, a ≠ .Starred x p) (hpl : (backTo pos (starEach es X.env)).any (·.1) = false) (h : BA X tab z W (a :: es) fl) :
    BE X tab z W (.Call (.Name x p) (a :: es) [] pos) (fun e m => (fl e m).bind fun ts m' => f ts m') := by
  obtain ⟨fd, ps, hn, F, hb⟩ := F.ok
  refine pe_w (pe_callS F hr hg hm hk hb (fun σ => passAt tk σ) h hd (star_of hs) hpl) fun σ H Q ⟨g, e, m, rl, so, p⟩ => ?_
  refine liftA_eq rl so p fun g1 H1 x m1 v eq r1 so1 s1 hv p1 => ?_
  exact ⟨g1, m1, x, r1, hv, p1⟩
end
end BV
/-! methods, new instances -/
namespace BV
open PySem PySem.Spec L2
section
variable {X : Cx} {tab : List (Str × List Str)} {z : Option Xz} {W : WX}
/-- o.m(..): the class is told by what stands there -/
def tMethB (X : Cx) (k : Nat) (m : Str) (W : WX) (ta : TE) (t : TA) : TE := fun σ H Q => ta σ H fun x H1 => ∃ a C dx fs f fd ps sp, x = .ref a ∧ H1 a = some (.ins C dx fs) ∧ Cls X.K C ∧ Meth X.K C m f ∧
  FnOk X.prog X.w X.K X.mg X.base (L2.CX X.prog X.w) k f fd ps sp ∧ Binds X.K fd ps [] ∧ fs.lookup m = none ∧ t σ H1 fun vs H2 => sp (x :: vs) H2 Q (WE W σ)
theorem pe_methB {k : Nat} {m : Str} {o a : Expr} {es : List Expr} {ta : TE} {t : TA} {apos pos : Pos} {pl : Sem Bool} (tk : Takes X W) (hr : Room k X.A) (he : PE X o ta) (ha : PA X (a :: es) t) (hs : ∀ x p, a ≠ .Starred x p)
    (hpl : (backTo pos (starEach es X.env)).any (·.1) = false)
    (ht : eval (.Call (.Attribute o m apos) (a :: es) [] pos) X.env = (do
      let ov ← eval o X.env
      standAt apos.atName
      let (f, first) ← holding [ov] (getMethod ov m pl)
      callWith pos f first (backTo pos (starEach (a :: es) X.env)) (backToKw pos (keywordEach [] X.env)))) :
    PE X (.Call (.Attribute o m apos) (a :: es) [] pos) (tMethB X k m W ta t) := by
  refine ⟨fun pins s σ H Q I h => PySem.W.methodCall_KW (pl := pl) (thn (he.run pins s σ H _ I h) fun u s1 ⟨x, H1, I1, rx, ad, C, dx, fs, f, fd, ps, sp, ex, ea, c, hm, F, hb, l, q⟩ => ?_) ht⟩
  subst ex
  obtain rfl : u = Value.ref ad := rx
  refine getmeth_ok I1 ea c hm l (PySem.W.callWith_K (first := [.ref ad]) (h₀ := X.base) I.ok.mod.kin hm.kp (thn (ha.run pos pins s1 σ H1 _ I1 q) fun us s2 ⟨vs, H2, I2, r, q2⟩ => ⟨I2.kIn, ?_⟩) (star_of hs) hpl)
  exact run_fnS (us := .ref ad :: us) (vs := .ref ad :: vs) F hr hb (passAt tk σ) I2 (.cons rfl r) q2
theorem pe_methB0 {k : Nat} {m : Str} {o : Expr} {ta : TE} {apos pos : Pos} {pl : Sem Bool} (tk : Takes X W) (hr : Room k X.A) (he : PE X o ta)
    (ht : eval (.Call (.Attribute o m apos) [] [] pos) X.env = (do
      let ov ← eval o X.env
      standAt apos.atName
      let (f, first) ← holding [ov] (getMethod ov m pl)
      callWith pos f first (backTo pos (starEach [] X.env)) (backToKw pos (keywordEach [] X.env)))) :
    PE X (.Call (.Attribute o m apos) [] [] pos) (tMethB X k m W ta tNil) := by
  refine ⟨fun pins s σ H Q I h => PySem.W.methodCall_KW (pl := pl) (thn (he.run pins s σ H _ I h) fun u s1 ⟨x, H1, I1, rx, ad, C, dx, fs, f, fd, ps, sp, ex, ea, c, hm, F, hb, l, q⟩ => ?_) ht⟩
  subst ex
  obtain rfl : u = Value.ref ad := rx
  refine getmeth_ok I1 ea c hm l (PySem.W.callWith_K0 (first := [.ref ad]) I1.kIn hm.kp ?_)
  exact run_fnS (us := [.ref ad]) (vs := [.ref ad]) F hr hb (passAt tk σ) I1 (.cons rfl .nil) q
/-- the methods called m, by classes -/
def MethB (X : Cx) (tab : List (Str × List Str)) (k : Nat) (m : Str) (fs : List (Nat × Fn)) : Prop :=
  ∀ c F, fs.lookup c = some F → ∃ n ks, tab[c]? = some (n, ks) ∧ m ∉ ks ∧ ∀ C, X.mg n = some (.ref C) → Cls X.K C ∧ ∃ f fd ps,
    Meth X.K C m f ∧ FnOk X.prog X.w X.K X.mg X.base (L2.CX X.prog X.w) k f fd ps (spB (sg X tab) F) ∧ Binds X.K fd ps []
theorem look_no {fvs : List (Str × V)} {ks : List Str} {m : Str} {n : Nat} (h : fvs.map (·.1) = ks.take n) (nm : m ∉ ks) : fvs.lookup m = none := by
  rw [List.lookup_eq_none_iff]
  intro p hp
  rw [bne_iff_ne]
  intro q
  have h1 : p.1 ∈ fvs.map (·.1) := List.mem_map.mpr ⟨p, hp, rfl⟩
  rw [h] at h1
  exact nm (by rw [q]; exact List.mem_of_mem_take h1)
theorem meth_use {k : Nat} {m : Str} {fs : List (Nat × Fn)} {g g2 : Gh} {H1 H2 : Hp} {m1 m2 : Sto} {x : T} {v : V} (ok : MethB X tab k m fs) {c : Nat} {xs : List T} (r1 : Rel (sg X tab) g m1 H1) (ec : clsOf m1 x = some (c, xs)) (hv : rep (sg X tab) g H1 x v) {F : Fn} (eF : fs.lookup c = some F) :
    ∃ a C dx fvs f fd ps, v = .ref a ∧ H1 a = some (.ins C dx fvs) ∧ Cls X.K C ∧ Meth X.K C m f ∧ FnOk X.prog X.w X.K X.mg X.base (L2.CX X.prog X.w) k f fd ps (spB (sg X tab) F) ∧ Binds X.K fd ps [] ∧ fvs.lookup m = none := by
  obtain ⟨a, C, dx, fvs, n, ks, rfl, k1, k2, k3, k4, k5⟩ := clsOf_rep r1 ec hv
  obtain ⟨n', ks', q1, q2, q3⟩ := ok c F eF
  have k1' : tab[c]? = some (n, ks) := k1
  rw [q1] at k1'
  obtain ⟨rfl, rfl⟩ := Prod.mk.inj (Option.some.inj k1')
  obtain ⟨cl, f, fd, ps, h1, h2, h3⟩ := q3 C k2
  exact ⟨a, C, dx, fvs, f, fd, ps, rfl, k3, cl, h1, h2, h3, look_no k4 q2⟩
theorem be_meth {k : Nat} {m : Str} {o a : Expr} {es : List Expr} {fo : Sl → Sto → Rs T} {fl : Sl → Sto → Rs (List T)} {fs : List (Nat × Fn)} {apos pos : Pos} {pl : Sem Bool} (ok : MethB X tab k m fs) (tk : Takes X W) (hr : Room k X.A) (hs : ∀ x p, a ≠ .Starred x p)
    (hpl : (backTo pos (starEach es X.env)).any (·.1) = false)
    (ht : eval (.Call (.Attribute o m apos) (a :: es) [] pos) X.env = (do
      let ov ← eval o X.env
      standAt apos.atName
      let (f, first) ← holding [ov] (getMethod ov m pl)
      callWith pos f first (backTo pos (starEach (a :: es) X.env)) (backToKw pos (keywordEach [] X.env))))
    (ho : BE X tab z W o fo) (h : BA X tab z W (a :: es) fl) :
    BE X tab z W (.Call (.Attribute o m apos) (a :: es) [] pos) (fun e m => (fo e m).bind fun x m1 => match methF fs x m1 with | some F => (fl e m1).bind fun ts m2 => F (x :: ts) m2 | none => .bad) := by
  refine pe_w (pe_methB tk hr ho h hs hpl ht) fun σ H Q ⟨g, e, m, rl, so, p⟩ => ?_
  refine lift_go rl so p fun g1 H1 x m1 v r1 so1 s1 hv p1 => ?_
  split at p1
  · rename_i F eF
    unfold methF at eF
    split at eF
    · rename_i c xs ec
      obtain ⟨a, C, dx, fvs, f, fd, ps, rfl, h1, h2, h3, h4, h5, h6⟩ := meth_use (g2 := g1) (H2 := H1) (m2 := m1) ok r1 ec hv eF
      refine ⟨a, C, dx, fvs, f, fd, ps, _, rfl, h1, h2, h3, h4, h5, h6, ?_⟩
      refine liftA_eq r1 so1 p1 fun g2 H2 ts m2 vs eq r2 so2 s2 hvs p2 => ?_
      exact ⟨g2, m2, x :: ts, r2, ⟨_, vs, rfl, rep_mono s2 x _ hv, hvs⟩, p2⟩
    · cases eF
  · exact p1.elim
theorem be_meth0 {k : Nat} {m : Str} {o : Expr} {fo : Sl → Sto → Rs T} {fs : List (Nat × Fn)} {apos pos : Pos} {pl : Sem Bool} (ok : MethB X tab k m fs) (tk : Takes X W) (hr : Room k X.A)
    (ht : eval (.Call (.Attribute o m apos) [] [] pos) X.env = (do
      let ov ← eval o X.env
      standAt apos.atName
      let (f, first) ← holding [ov] (getMethod ov m pl)
      callWith pos f first (backTo pos (starEach [] X.env)) (backToKw pos (keywordEach [] X.env))))
    (ho : BE X tab z W o fo) :
    BE X tab z W (.Call (.Attribute o m apos) [] [] pos) (fun e m => (fo e m).bind fun x m1 => match methF fs x m1 with | some F => F [x] m1 | none => .bad) := by
  refine pe_w (pe_methB0 tk hr ho ht) fun σ H Q ⟨g, e, m, rl, so, p⟩ => ?_
  refine lift_go rl so p fun g1 H1 x m1 v r1 so1 s1 hv p1 => ?_
  split at p1
  · rename_i F eF
    unfold methF at eF
    split at eF
    · rename_i c xs ec
      obtain ⟨a, C, dx, fvs, f, fd, ps, rfl, h1, h2, h3, h4, h5, h6⟩ := meth_use (g2 := g1) (H2 := H1) (m2 := m1) ok r1 ec hv eF
      exact ⟨a, C, dx, fvs, f, fd, ps, _, rfl, h1, h2, h3, h4, h5, h6, g1, m1, [x], r1, ⟨_, [], rfl, hv, rfl⟩, p1⟩
    · cases eF
  · exact p1.elim
/-! ### methods with one default, not told -/
def tMethD (X : Cx) (k : Nat) (m : Str) (W : WX) (ta : TE) (t : TA) : TE := fun σ H Q => ta σ H fun x H1 => ∃ a C dx fs f fd ps sp ds w, x = .ref a ∧ H1 a = some (.ins C dx fs) ∧ Cls X.K C ∧ Meth X.K C m f ∧
  FnOk X.prog X.w X.K X.mg X.base (L2.CX X.prog X.w) k f fd ps sp ∧ Binds X.K fd ps ds ∧ Vals [w] ds ∧ fs.lookup m = none ∧ t σ H1 fun vs H2 => sp (x :: (vs ++ [w])) H2 Q (WE W σ)
theorem pe_methD {k : Nat} {m : Str} {o a : Expr} {es : List Expr} {ta : TE} {t : TA} {apos pos : Pos} {pl : Sem Bool} (tk : Takes X W) (hr : Room k X.A) (he : PE X o ta) (ha : PA X (a :: es) t) (hs : ∀ x p, a ≠ .Starred x p)
    (hpl : (backTo pos (starEach es X.env)).any (·.1) = false)
    (ht : eval (.Call (.Attribute o m apos) (a :: es) [] pos) X.env = (do
      let ov ← eval o X.env
      standAt apos.atName
      let (f, first) ← holding [ov] (getMethod ov m pl)
      callWith pos f first (backTo pos (starEach (a :: es) X.env)) (backToKw pos (keywordEach [] X.env)))) :
    PE X (.Call (.Attribute o m apos) (a :: es) [] pos) (tMethD X k m W ta t) := by
  refine ⟨fun pins s σ H Q I h => PySem.W.methodCall_KW (pl := pl) (thn (he.run pins s σ H _ I h) fun u s1 ⟨x, H1, I1, rx, ad, C, dx, fs, f, fd, ps, sp, ds, w, ex, ea, c, hm, F, hb, hd, l, q⟩ => ?_) ht⟩
  subst ex
  obtain rfl : u = Value.ref ad := rx
  refine getmeth_ok I1 ea c hm l (PySem.W.callWith_K (first := [.ref ad]) (h₀ := X.base) I.ok.mod.kin hm.kp (thn (ha.run pos pins s1 σ H1 _ I1 q) fun us s2 ⟨vs, H2, I2, r, q2⟩ => ⟨I2.kIn, ?_⟩) (star_of hs) hpl)
  exact run_fnSD (us := .ref ad :: us) (vs := .ref ad :: vs) F hr hb hd (passAt tk σ) I2 (.cons rfl r) q2
theorem pe_methD0 {k : Nat} {m : Str} {o : Expr} {ta : TE} {apos pos : Pos} {pl : Sem Bool} (tk : Takes X W) (hr : Room k X.A) (he : PE X o ta)
    (ht : eval (.Call (.Attribute o m apos) [] [] pos) X.env = (do
      let ov ← eval o X.env
      standAt apos.atName
      let (f, first) ← holding [ov] (getMethod ov m pl)
      callWith pos f first (backTo pos (starEach [] X.env)) (backToKw pos (keywordEach [] X.env)))) :
    PE X (.Call (.Attribute o m apos) [] [] pos) (tMethD X k m W ta tNil) := by
  refine ⟨fun pins s σ H Q I h => PySem.W.methodCall_KW (pl := pl) (thn (he.run pins s σ H _ I h) fun u s1 ⟨x, H1, I1, rx, ad, C, dx, fs, f, fd, ps, sp, ds, w, ex, ea, c, hm, F, hb, hd, l, q⟩ => ?_) ht⟩
  subst ex
  obtain rfl : u = Value.ref ad := rx
  refine getmeth_ok I1 ea c hm l (PySem.W.callWith_K0 (first := [.ref ad]) I1.kIn hm.kp ?_)
  exact run_fnSD (us := [.ref ad]) (vs := [.ref ad]) F hr hb hd (passAt tk σ) I1 (.cons rfl .nil) q
/-- the methods called m, by classes, each with the default d -/
def MethD (X : Cx) (tab : List (Str × List Str)) (k : Nat) (m : Str) (fs : List (Nat × Fn)) (d : T) : Prop :=
  ∀ c F, fs.lookup c = some F → ∃ n ks, tab[c]? = some (n, ks) ∧ m ∉ ks ∧ ∀ C, X.mg n = some (.ref C) → Cls X.K C ∧ ∃ f fd ps ds w,
    Meth X.K C m f ∧ FnOk X.prog X.w X.K X.mg X.base (L2.CX X.prog X.w) k f fd ps (spB (sg X tab) F) ∧ Binds X.K fd ps ds ∧ Vals [w] ds ∧ rep0 X.K d w
theorem methD_use {k : Nat} {m : Str} {fs : List (Nat × Fn)} {d : T} {g : Gh} {H1 : Hp} {m1 : Sto} {x : T} {v : V} (ok : MethD X tab k m fs d) {c : Nat} {xs : List T} (r1 : Rel (sg X tab) g m1 H1) (ec : clsOf m1 x = some (c, xs)) (hv : rep (sg X tab) g H1 x v) {F : Fn} (eF : fs.lookup c = some F) :
    ∃ a C dx fvs f fd ps ds w, v = .ref a ∧ H1 a = some (.ins C dx fvs) ∧ Cls X.K C ∧ Meth X.K C m f ∧ FnOk X.prog X.w X.K X.mg X.base (L2.CX X.prog X.w) k f fd ps (spB (sg X tab) F) ∧ Binds X.K fd ps ds ∧ Vals [w] ds ∧ fvs.lookup m = none ∧ rep0 X.K d w := by
  obtain ⟨a, C, dx, fvs, n, ks, rfl, k1, k2, k3, k4, k5⟩ := clsOf_rep r1 ec hv
  obtain ⟨n', ks', q1, q2, q3⟩ := ok c F eF
  have k1' : tab[c]? = some (n, ks) := k1
  rw [q1] at k1'
  obtain ⟨rfl, rfl⟩ := Prod.mk.inj (Option.some.inj k1')
  obtain ⟨cl, f, fd, ps, ds, w, h1, h2, h3, h4, h5⟩ := q3 C k2
  exact ⟨a, C, dx, fvs, f, fd, ps, ds, w, rfl, k3, cl, h1, h2, h3, h4, look_no k4 q2, h5⟩
theorem be_methD {k : Nat} {m : Str} {o a : Expr} {es : List Expr} {fo : Sl → Sto → Rs T} {fl : Sl → Sto → Rs (List T)} {fs : List (Nat × Fn)} {d : T} {apos pos : Pos} {pl : Sem Bool} (ok : MethD X tab k m fs d) (tk : Takes X W) (hr : Room k X.A) (hs : ∀ x p, a ≠ .Starred x p)
    (hpl : (backTo pos (starEach es X.env)).any (·.1) = false)
    (ht : eval (.Call (.Attribute o m apos) (a :: es) [] pos) X.env = (do
      let ov ← eval o X.env
      standAt apos.atName
      let (f, first) ← holding [ov] (getMethod ov m pl)
      callWith pos f first (backTo pos (starEach (a :: es) X.env)) (backToKw pos (keywordEach [] X.env))))
    (ho : BE X tab z W o fo) (h : BA X tab z W (a :: es) fl) :
    BE X tab z W (.Call (.Attribute o m apos) (a :: es) [] pos) (fun e m => (fo e m).bind fun x m1 => match methF fs x m1 with | some F => (fl e m1).bind fun ts m2 => F (x :: (ts ++ [d])) m2 | none => .bad) := by
  refine pe_w (pe_methD tk hr ho h hs hpl ht) fun σ H Q ⟨g, e, m, rl, so, p⟩ => ?_
  refine lift_go rl so p fun g1 H1 x m1 v r1 so1 s1 hv p1 => ?_
  split at p1
  · rename_i F eF
    unfold methF at eF
    split at eF
    · rename_i c xs ec
      obtain ⟨a, C, dx, fvs, f, fd, ps, ds, w, rfl, h1, h2, h3, h4, h5, h6, h7, h8⟩ := methD_use ok r1 ec hv eF
      refine ⟨a, C, dx, fvs, f, fd, ps, _, ds, w, rfl, h1, h2, h3, h4, h5, h6, h7, ?_⟩
      refine liftA_eq r1 so1 p1 fun g2 H2 ts m2 vs eq r2 so2 s2 hvs p2 => ?_
      exact ⟨g2, m2, x :: (ts ++ [d]), r2, ⟨_, vs ++ [w], rfl, rep_mono s2 x _ hv, reps_app hvs (show reps (sg X tab) g2 H2 [d] [w] from ⟨w, [], rfl, h8 _ g2 H2 rfl, rfl⟩)⟩, p2⟩
    · cases eF
  · exact p1.elim
theorem be_methD0 {k : Nat} {m : Str} {o : Expr} {fo : Sl → Sto → Rs T} {fs : List (Nat × Fn)} {d : T} {apos pos : Pos} {pl : Sem Bool} (ok : MethD X tab k m fs d) (tk : Takes X W) (hr : Room k X.A)
    (ht : eval (.Call (.Attribute o m apos) [] [] pos) X.env = (do
      let ov ← eval o X.env
      standAt apos.atName
      let (f, first) ← holding [ov] (getMethod ov m pl)
      callWith pos f first (backTo pos (starEach [] X.env)) (backToKw pos (keywordEach [] X.env))))
    (ho : BE X tab z W o fo) :
    BE X tab z W (.Call (.Attribute o m apos) [] [] pos) (fun e m => (fo e m).bind fun x m1 => match methF fs x m1 with | some F => F [x, d] m1 | none => .bad) := by
  refine pe_w (pe_methD0 tk hr ho ht) fun σ H Q ⟨g, e, m, rl, so, p⟩ => ?_
  refine lift_go rl so p fun g1 H1 x m1 v r1 so1 s1 hv p1 => ?_
  split at p1
  · rename_i F eF
    unfold methF at eF
    split at eF
    · rename_i c xs ec
      obtain ⟨a, C, dx, fvs, f, fd, ps, ds, w, rfl, h1, h2, h3, h4, h5, h6, h7, h8⟩ := methD_use ok r1 ec hv eF
      exact ⟨a, C, dx, fvs, f, fd, ps, _, ds, w, rfl, h1, h2, h3, h4, h5, h6, h7, g1, m1, [x, d], r1, ⟨_, [w], rfl, hv, ⟨w, [], rfl, h8 _ g1 H1 rfl, rfl⟩⟩, p1⟩
    · cases eF
  · exact p1.elim
/-! ### a function that stands in a field -/
theorem getmeth_fld {pins : List (Addr × Obj)} {σ : L2.St} {H : Hp} {s : Shared} {a C dx : Addr} {fs : List (Str × V)} {m : Str} {v : V} {A : Around} {E : Value → Shared → Prop} {pl : Sem Bool} {Q : Value × List Value → Shared → Prop} (I : Inv X pins σ H s) (e : H a = some (.ins C dx fs)) (c : Cls X.K C) (n : NoAttr X.K C m) (l : fs.lookup m = some v)
    (h : ∀ u s', Inv X pins σ H s' → RelV v u → Q (u, []) s') : wpAny (model X.prog X.w) A (getMethod (.ref a) m pl) Q E s := by
  obtain ⟨mA, O, r, _, _, _⟩ := ins_get I.hok e
  obtain ⟨od, J, hl⟩ := O.look
  exact PySem.W.method_usual (r := none) I.kIn J (PySem.W.plainGet_of (c.get m)).1 (PySem.W.plainGet_of (c.get m)).2 n rfl (getattr_ok I e c n l h)
/-! a lambda that tells None, called -/
theorem bind_one {q : Str} {a : Arg} {b : Expr} {sc : Scope} {pm cd ct : Value} {u : Value} : bindArgs (PySem.W.kla_fn "<lambda>" q ⟨[], [a], none, [], [], none, []⟩ b sc [] pm cd ct) ⟨[u], []⟩ = pure [(a.arg, u)] := by
  unfold bindArgs
  simp [seqItems?, List.lookup, Id.run]
  rfl
theorem lamB_use {ps : Arguments} {b : Expr} {sc : Scope} (h : lamB ps b sc = true) : (∃ a : Arg, ps = ⟨[], [a], none, [], [], none, []⟩ ∧ sc.names.lookup a.arg = some .local) ∧ (∃ j p, b = .Constant .none j p) ∧ sc.kind = .function ∧ sc.isCoroutine = false ∧ sc.isGenerator = false ∧ ∀ y ∈ sc.names, y.2 ≠ .cell ∧ y.2 ≠ .free := by
  unfold lamB at h
  rw [Bool.and_eq_true, Bool.and_eq_true, Bool.and_eq_true, Bool.and_eq_true, Bool.and_eq_true] at h
  obtain ⟨h1, h2, h3, h4, h5, h6⟩ := h
  refine ⟨?_, ?_, of_decide_eq_true h3, by simpa using h4, by simpa using h5, fun y hy => ?_⟩
  · split at h1
    · rename_i a
      exact ⟨a, rfl, of_decide_eq_true h1⟩
    · cases h1
  · split at h2
    · exact ⟨_, _, rfl⟩
    · cases h2
  · have := List.all_eq_true.mp h6 y hy
    rw [Bool.and_eq_true] at this
    exact ⟨by simpa using this.1, by simpa using this.2⟩
theorem run_lam {pins : List (Addr × Obj)} {σ : L2.St} {H : Hp} {s : Shared} {k : Nat} {f c : Addr} {q : Str} {ps : Arguments} {b : Expr} {sc : Scope} {u : Value} {Q : VK} (hr : Room k X.A) (I : Inv X pins σ H s) (hl : lamB ps b sc = true)
    (hf : H f = some (FnL f q ps b sc c)) (hc : H c = some (LamX.CodeO c q)) (hq : Q .non H) : wpAny (model X.prog X.w) X.A (call (.ref f) [u]) (EP X pins σ Q) X.xe s := by
  obtain ⟨⟨a, rfl, la⟩, ⟨j, p, rfl⟩, kd, co, ge, nf⟩ := lamB_use hl
  obtain ⟨⟨od, sl, pm, ctv, ho⟩, _, _⟩ := I.hok f _ hf
  obtain ⟨⟨oc, vs, tk, hoc, hdc, hvc⟩, _, _⟩ := I.hok c _ hc
  have run : codeAny (model X.prog X.w) X.A (.call (.ref f) ⟨[u], []⟩) (fun r s' => ∃ v, r = .ok (.ret v) ∧ CE X.stack X.prog X.w H s Q v s') s := by
    refine PySem.W.kla_callFunE hr.depth ho rfl co ge rfl ⟨c, oc, vs, tk, rfl, hoc, hdc, hvc⟩ ?_
    have hb : bindArgs (PySem.W.kla_fn "<lambda>" q ⟨[], [a], none, [], [], none, []⟩ (.Constant .none j p) sc [] pm (.ref c) ctv) ⟨[u], []⟩ = pure [(a.arg, u)] := bind_one
    rw [hb]
    refine wpAny_pure (wpAny_newFunctionEnv (fun y hy => (nf y hy).1) (fun y hy => by rw [List.mem_singleton.mp hy]; exact la) (fun h2 hns hsb => ⟨I.nolimit.fresh _ hsb, ?_⟩) kd)
    have kp : ∀ d o, s.heap.get? d = some o → h2.get? d = some o := fun d o e => hsb.extBut d o (Nat.ne_of_lt (Heap.lt_size e)) (Heap.get?_push_of_some _ e)
    refine PySem.W.kla_codeExpr (PyProof.Rows.Constant_none ?_)
    exact ⟨.none, rfl, .non, H, rfl, I.bare, Un.kept kp, I.hok.kept kp, rfl, hq⟩
  refine wpAny_call (codeAny_mono run fun r s' hr' => ?_)
  obtain ⟨v, rfl, hv⟩ := hr'
  exact I.after hv
def tVcall (X : Cx) (k : Nat) (m : Str) (W : WX) (ta : TE) (t : TA) : TE := fun σ H Q => ta σ H fun x H1 => ∃ a C dx fs g, x = .ref a ∧ H1 a = some (.ins C dx fs) ∧ Cls X.K C ∧ NoAttr X.K C m ∧ fs.lookup m = some (.ref g) ∧
  ((∃ fd ps sp, PySem.W.keepIn X.K (.ref g) = true ∧ FnOk X.prog X.w X.K X.mg X.base (L2.CX X.prog X.w) k g fd ps sp ∧ Binds X.K fd ps [] ∧ t σ H1 fun vs H2 => sp vs H2 Q (WE W σ)) ∨
   (∃ q ps b sc c, lamB ps b sc = true ∧ H1 g = some (FnL g q ps b sc c) ∧ t σ H1 fun vs H2 => H2 g = some (FnL g q ps b sc c) ∧ H2 c = some (LamX.CodeO c q) ∧ ∃ v, vs = [v] ∧ Q .non H2))
theorem fnL_at {pins : List (Addr × Obj)} {σ : L2.St} {H : Hp} {s : Shared} {g c : Addr} {q : Str} {ps : Arguments} {b : Expr} {sc : Scope} (I : Inv X pins σ H s) (h : H g = some (FnL g q ps b sc c)) : PySem.W.FnAt g s.heap := by
  obtain ⟨⟨od, sl, pm, ctv, ho⟩, _, _⟩ := I.hok g _ h
  exact ⟨_, _, _, _, ho⟩
theorem pe_vcall {k : Nat} {m : Str} {o a : Expr} {es : List Expr} {ta : TE} {t : TA} {apos pos : Pos} {pl : Sem Bool} (tk : Takes X W) (hr : Room k X.A) (he : PE X o ta) (ha : PA X (a :: es) t) (hs : ∀ x p, a ≠ .Starred x p)
    (hpl : (backTo pos (starEach es X.env)).any (·.1) = false)
    (ht : eval (.Call (.Attribute o m apos) (a :: es) [] pos) X.env = (do
      let ov ← eval o X.env
      standAt apos.atName
      let (f, first) ← holding [ov] (getMethod ov m pl)
      callWith pos f first (backTo pos (starEach (a :: es) X.env)) (backToKw pos (keywordEach [] X.env)))) :
    PE X (.Call (.Attribute o m apos) (a :: es) [] pos) (tVcall X k m W ta t) := by
  refine ⟨fun pins s σ H Q I h => PySem.W.methodCall_KW (pl := pl) (thn (he.run pins s σ H _ I h) fun u s1 ⟨x, H1, I1, rx, ad, C, dx, fs, g, ex, ea, c, n, l, q⟩ => ?_) ht⟩
  subst ex
  obtain rfl : u = Value.ref ad := rx
  refine getmeth_fld I1 ea c n l fun u' s2 I2 ru => ?_
  obtain rfl : u' = Value.ref g := ru
  rcases q with ⟨fd, ps, sp, hk, F, hb, q⟩ | ⟨q', ps, b, sc, c', hl, hg, q⟩
  · refine PySem.W.callWith_K (first := []) (h₀ := X.base) I2.ok.mod.kin hk (thn (ha.run pos pins s2 σ H1 _ I2 q) fun us s3 ⟨vs, H2, I3, r, q2⟩ => ⟨I3.kIn, ?_⟩) (star_of hs) hpl
    exact run_fnS (us := us) (vs := vs) F hr hb (passAt tk σ) I3 r q2
  · refine PySem.W.callWith_F (first := []) (fnL_at I2 hg) (thn (ha.run pos pins s2 σ H1 _ I2 q) fun us s3 ⟨vs, H2, I3, r, k1, k2, v, ev, q2⟩ => ⟨fnL_at I3 k1, ?_⟩) (star_of hs) hpl
    subst ev
    cases r with
    | cons r1 r2 =>
      cases r2
      exact run_lam hr I3 hl k1 k2 q2
theorem be_vcall {k : Nat} {m : Str} {o a : Expr} {es : List Expr} {fo : Sl → Sto → Rs T} {fl : Sl → Sto → Rs (List T)} {fs : List (Nat × Nat)} {hs' : List Str} {apos pos : Pos} {pl : Sem Bool} (okf : FldOk X tab m fs)
    (og : ∀ x ∈ hs', ∀ ad, X.mg x = some (.ref ad) → ∃ fd ps, PySem.W.keepIn X.K (.ref ad) = true ∧ FnOk X.prog X.w X.K X.mg X.base (L2.CX X.prog X.w) k ad fd ps (spB (sg X tab) fnNone) ∧ Binds X.K fd ps []) (tk : Takes X W) (hr : Room k X.A) (hs : ∀ x p, a ≠ .Starred x p)
    (hpl : (backTo pos (starEach es X.env)).any (·.1) = false)
    (ht : eval (.Call (.Attribute o m apos) (a :: es) [] pos) X.env = (do
      let ov ← eval o X.env
      standAt apos.atName
      let (f, first) ← holding [ov] (getMethod ov m pl)
      callWith pos f first (backTo pos (starEach (a :: es) X.env)) (backToKw pos (keywordEach [] X.env))))
    (ho : BE X tab z W o fo) (h : BA X tab z W (a :: es) fl) :
    BE X tab z W (.Call (.Attribute o m apos) (a :: es) [] pos) (fun e m => (fo e m).bind fun x m1 => (fldT fs x m1).bind fun f m2 => match fnOf hs' f with | some F => (fl e m2).bind fun ts m3 => F ts m3 | none => .bad) := by
  refine pe_w (pe_vcall tk hr ho h hs hpl ht) fun σ H Q ⟨g, e, m, rl, so, p⟩ => ?_
  refine lift_go rl so p fun g1 H1 x m1 v r1 so1 s1 hv p1 => ?_
  unfold fldT at p1
  split at p1
  · rename_i c xs ec
    split at p1
    · rename_i i ei
      split at p1
      · rename_i t et
        obtain ⟨a, C, dx, fvs, n, ks, rfl, k1, k2, k3, k4, k5⟩ := clsOf_rep r1 ec hv
        obtain ⟨n', ks', q1, q2, q3, q4, q5⟩ := okf c i ei
        have k1' : tab[c]? = some (n, ks) := k1
        rw [q1] at k1'
        obtain ⟨rfl, rfl⟩ := Prod.mk.inj (Option.some.inj k1')
        obtain ⟨w, w1, w2⟩ := reps_get k5 et
        obtain ⟨cl, na⟩ := q5 C k2
        have lk := look_ix q3 k4 q2 w1
        rw [bind_ok] at p1
        split at p1
        · rename_i F eF
          unfold fnOf at eF
          split at eF
          · rename_i x
            obtain ⟨ad, rfl, hm⟩ := w2
            have hm' : X.mg x = some (.ref ad) := hm
            split at eF
            case isFalse => cases eF
            rename_i hc
            obtain rfl := Option.some.inj eF
            obtain ⟨fd, ps, h2, h3, h4⟩ := og x (List.contains_iff_mem.mp hc) ad hm'
            refine ⟨a, C, dx, fvs, _, rfl, k3, cl, na, lk, .inl ⟨fd, ps, _, h2, h3, h4, ?_⟩⟩
            refine liftA_eq r1 so1 p1 fun g2 H2 ts m2 vs eq r2 so2 s2 hvs p2 => ?_
            exact ⟨g2, m2, ts, r2, hvs, p2⟩
          · obtain rfl := Option.some.inj eF
            obtain ⟨ad, rfl, hm⟩ := w2
            have hm' : FnN g1.A H1 ad := hm
            obtain ⟨n1, q, ps, b, sc, c', l1, l2, l3, l4⟩ := hm'
            refine ⟨a, C, dx, fvs, _, rfl, k3, cl, na, lk, .inr ⟨q, ps, b, sc, c', l2, l1, ?_⟩⟩
            refine liftA_eq r1 so1 p1 fun g2 H2 ts m2 vs eq r2 so2 s2 hvs p2 => ?_
            have e1 := (s2.kp _ _ l1 fun z => n1 (g1.sub _ z)).1
            have e2 := (s2.kp _ _ l4 fun z => l3 (g1.sub _ z)).1
            unfold fnNone at p2
            match ts, vs, hvs, p2 with
            | [t1], vs, hvs, p2 =>
              obtain ⟨v1, r', rfl, _, hr'⟩ := hvs
              obtain rfl : r' = [] := hr'
              refine ⟨e1, e2, v1, rfl, ?_⟩
              exact p2 g2 H2 (Stp.refl _ _) r2 .non rfl
            | [], vs, hvs, p2 => exact p2.elim
            | _ :: _ :: _, vs, hvs, p2 => exact p2.elim
          · cases eF
        · exact p1.elim
      · exact p1.elim
    · exact p1.elim
  · exact p1.elim
/-! ### new instances -/
theorem run_makeB {k : Nat} {f C : Addr} {fd : FuncData} {ps : List Str} {sp : Sp} {E : L2.St → XK} {CX : CXT} {pins : List (Addr × Obj)} {σ : L2.St} {H : Hp} {s : Shared} {Q : VK} {us : List Value} {vs : List V} (M : Mk X.K C f) (F : FnOk X.prog X.w X.K X.mg X.base CX k f fd ps sp) (hr : Room (k + 1) X.A) (hb : Binds X.K fd ps [])
    (hx : PassesAt CX X σ (E σ)) (I : Inv X pins σ H s) (r : Vals vs us)
    (h : ∀ x dx, H x = none → H dx = none → dx ≠ x → sp (.ref x :: vs) (upd (upd H dx (.own x)) x (.ins C dx [])) (fun v H2 => v = .non ∧ Q (.ref x) H2) (E σ)) :
    wpAny (model X.prog X.w) X.A (call (.ref C) us) (EP X pins σ Q) X.xe s := by
  have q := h (s.heap.objs.size + 1) s.heap.objs.size (I.hok.fresh (Nat.le_succ _)) (I.hok.fresh (Nat.le_refl _)) (Nat.ne_of_lt (Nat.lt_succ_self _))
  have I2 := Inv.made (C := C) I
  have r2 : Vals (V.ref (s.heap.objs.size + 1) :: vs) (Value.ref (s.heap.objs.size + 1) :: us) := .cons rfl r
  have l : (Value.ref (s.heap.objs.size + 1) :: us ++ []).length = ps.length := by
    rw [List.append_nil, ← r2.length, F.len _ _ _ _ q]
  have b := hb _ (Value.ref (s.heap.objs.size + 1) :: us) I2.kIn l
  rw [List.append_nil] at b
  refine wpAny_call (make_map (f := f) I.kIn M.makes M.init (beq_iff_eq.mp M.fn) (codeAny_mono (F.run _ X.stack _ _ ⟨Value.ref (s.heap.objs.size + 1) :: us, []⟩ (Value.ref (s.heap.objs.size + 1) :: us) _ _ (E σ) (hr.make C us [])
    (I2.env0.make C us []) b r2 q) fun r s' hq => ?_))
  cases r with
  | error e => exact hx pins _ _ e s' I2 hq
  | ok fl =>
    cases fl with
    | ret u =>
      obtain ⟨v, H', I3, rv, ev, q3⟩ := I2.after hq
      subst ev
      exact ⟨rv, ⟨V.ref (s.heap.objs.size + 1), H', I3, rfl, q3⟩⟩
    | next => exact hq.elim
    | brk => exact hq.elim
    | cont => exact hq.elim
def tMakeB (C : Addr) (sp : Sp) (W : WX) (t : TA) : TE := fun σ H Q => t σ H fun vs H1 => ∀ x dx, H1 x = none → H1 dx = none → dx ≠ x →
  sp (.ref x :: vs) (upd (upd H1 dx (.own x)) x (.ins C dx [])) (fun v H2 => v = .non ∧ Q (.ref x) H2) (WE W σ)
theorem pe_makeB {k : Nat} {f C : Addr} {fd : FuncData} {ps : List Str} {sp : Sp} {x : Str} {a : Expr} {es : List Expr} {t : TA} {p pos : Pos} (tk : Takes X W) (M : Mk X.K C f) (F : FnOk X.prog X.w X.K X.mg X.base (L2.CX X.prog X.w) k f fd ps sp) (hr : Room (k + 1) X.A)
    (hg : Gl X x) (hm : X.mg x = some (.ref C)) (hb : Binds X.K fd ps []) (hd : (x == ("__debug__" : Str)) = false) (hs : ∀ x p, a ≠ .Starred x p) (hpl : (backTo pos (starEach es X.env)).any (·.1) = false) (ha : PA X (a :: es) t) :
    PE X (.Call (.Name x p) (a :: es) [] pos) (tMakeB C sp W t) := by
  refine ⟨fun pins s σ H Q I h => wpAny_Call_Name_kw (ld_glob I hg hm ?_ hd)⟩
  refine PySem.W.callWith_K (h₀ := X.base) I.ok.mod.kin M.kp (thn (ha.run pos pins s σ H _ I h) fun us s1 ⟨vs, H1, I1, r, q⟩ => ⟨I1.kIn, ?_⟩) (star_of hs) hpl
  exact run_makeB (E := WE W) M F hr hb (passAt tk σ) I1 r q
theorem pe_makeB0 {k : Nat} {f C : Addr} {fd : FuncData} {ps : List Str} {sp : Sp} {x : Str} {p pos : Pos} (tk : Takes X W) (M : Mk X.K C f) (F : FnOk X.prog X.w X.K X.mg X.base (L2.CX X.prog X.w) k f fd ps sp) (hr : Room (k + 1) X.A)
    (hg : Gl X x) (hm : X.mg x = some (.ref C)) (hb : Binds X.K fd ps []) (hd : (x == ("__debug__" : Str)) = false) :
    PE X (.Call (.Name x p) [] [] pos) (tMakeB C sp W tNil) := by
  refine ⟨fun pins s σ H Q I h => wpAny_Call_Name_kw (ld_glob I hg hm ?_ hd)⟩
  exact PySem.W.callWith_K0 I.kIn M.kp (run_makeB (E := WE W) M F hr hb (passAt tk σ) I .nil h)
theorem run_makeD {k : Nat} {f C : Addr} {fd : FuncData} {ps : List Str} {ds : List Value} {dvs : List V} {sp : Sp} {E : L2.St → XK} {CX : CXT} {pins : List (Addr × Obj)} {σ : L2.St} {H : Hp} {s : Shared} {Q : VK} {us : List Value} {vs : List V} (M : Mk X.K C f) (F : FnOk X.prog X.w X.K X.mg X.base CX k f fd ps sp) (hr : Room (k + 1) X.A) (hb : Binds X.K fd ps ds) (hv : Vals dvs ds)
    (hx : PassesAt CX X σ (E σ)) (I : Inv X pins σ H s) (r : Vals vs us)
    (h : ∀ x dx, H x = none → H dx = none → dx ≠ x → sp (.ref x :: (vs ++ dvs)) (upd (upd H dx (.own x)) x (.ins C dx [])) (fun v H2 => v = .non ∧ Q (.ref x) H2) (E σ)) :
    wpAny (model X.prog X.w) X.A (call (.ref C) us) (EP X pins σ Q) X.xe s := by
  have q := h (s.heap.objs.size + 1) s.heap.objs.size (I.hok.fresh (Nat.le_succ _)) (I.hok.fresh (Nat.le_refl _)) (Nat.ne_of_lt (Nat.lt_succ_self _))
  have I2 := Inv.made (C := C) I
  have r2 : Vals (V.ref (s.heap.objs.size + 1) :: (vs ++ dvs)) (Value.ref (s.heap.objs.size + 1) :: (us ++ ds)) := .cons rfl (r.append hv)
  have l : (Value.ref (s.heap.objs.size + 1) :: us ++ ds).length = ps.length := by
    rw [← F.len _ _ _ _ q, r2.length]
    rfl
  have b := hb _ (Value.ref (s.heap.objs.size + 1) :: us) I2.kIn l
  refine wpAny_call (make_map (f := f) I.kIn M.makes M.init (beq_iff_eq.mp M.fn) (codeAny_mono (F.run _ X.stack _ _ ⟨Value.ref (s.heap.objs.size + 1) :: us, []⟩ (Value.ref (s.heap.objs.size + 1) :: us ++ ds) _ _ (E σ) (hr.make C us [])
    (I2.env0.make C us []) b r2 q) fun r s' hq => ?_))
  cases r with
  | error e => exact hx pins _ _ e s' I2 hq
  | ok fl =>
    cases fl with
    | ret u =>
      obtain ⟨v, H', I3, rv, ev, q3⟩ := I2.after hq
      subst ev
      exact ⟨rv, ⟨V.ref (s.heap.objs.size + 1), H', I3, rfl, q3⟩⟩
    | next => exact hq.elim
    | brk => exact hq.elim
    | cont => exact hq.elim
def tMakeD (C : Addr) (sp : Sp) (W : WX) (dvs : List V) (t : TA) : TE := fun σ H Q => t σ H fun vs H1 => ∀ x dx, H1 x = none → H1 dx = none → dx ≠ x →
  sp (.ref x :: (vs ++ dvs)) (upd (upd H1 dx (.own x)) x (.ins C dx [])) (fun v H2 => v = .non ∧ Q (.ref x) H2) (WE W σ)
theorem pe_makeD {k : Nat} {f C : Addr} {fd : FuncData} {ps : List Str} {ds : List Value} {dvs : List V} {sp : Sp} {x : Str} {a : Expr} {es : List Expr} {t : TA} {p pos : Pos} (tk : Takes X W) (M : Mk X.K C f) (F : FnOk X.prog X.w X.K X.mg X.base (L2.CX X.prog X.w) k f fd ps sp) (hr : Room (k + 1) X.A)
    (hg : Gl X x) (hm : X.mg x = some (.ref C)) (hb : Binds X.K fd ps ds) (hv : Vals dvs ds) (hd : (x == ("__debug__" : Str)) = false) (hs : ∀ x p, a ≠ .Starred x p) (hpl : (backTo pos (starEach es X.env)).any (·.1) = false) (ha : PA X (a :: es) t) :
    PE X (.Call (.Name x p) (a :: es) [] pos) (tMakeD C sp W dvs t) := by
  refine ⟨fun pins s σ H Q I h => wpAny_Call_Name_kw (ld_glob I hg hm ?_ hd)⟩
  refine PySem.W.callWith_K (h₀ := X.base) I.ok.mod.kin M.kp (thn (ha.run pos pins s σ H _ I h) fun us s1 ⟨vs, H1, I1, r, q⟩ => ⟨I1.kIn, ?_⟩) (star_of hs) hpl
  exact run_makeD (E := WE W) M F hr hb hv (passAt tk σ) I1 r q
theorem stp_addI {S : Sg} {g : Gh} {m : Sto} {H : Hp} {x dx C : Addr} (rl : Rel S g m H) (hx : H x = none) (hd : H dx = none) (ne : dx ≠ x) : Stp g H (addH g x) (upd (upd H dx (.own x)) x (.ins C dx [])) := by
  have e : ∀ a u, H a = some u → upd (upd H dx (.own x)) x (.ins C dx []) a = some u := fun a u h => by
    rw [upd_ne (ne_of_none h hx), upd_ne (ne_of_none h hd)]
    exact h
  refine ⟨⟨[x], rfl⟩, fun a u h n => ⟨e a u h, ⟨fun q => q.resolve_right fun z => ?_, .inl⟩⟩, fun a h => ?_, fun a xs h => e a _ h, fun a o u h => e a _ h, fun a h n q => ?_⟩
  · subst z; rw [hx] at h; cases h
  · cases q : H a with
    | none => exact absurd q h
    | some u => rw [e a u q]; exact fun z => nomatch z
  · rcases List.mem_append.mp q with q | q
    · exact n q
    · have z : a = x := by simpa using q
      subst z
      exact h hx
theorem rel_addI {S : Sg} {g : Gh} {m : Sto} {H : Hp} {x dx C : Addr} {c : Nat} {n : Str} {ks : List Str} (rl : Rel S g m H) (hx : H x = none) (hd : H dx = none) (ne : dx ≠ x) (h1 : S.tab[c]? = some (n, ks)) (h2 : S.mg n = some (.ref C)) :
    Rel S (addH g x) (m ++ [.ins c []]) (upd (upd H dx (.own x)) x (.ins C dx [])) := by
  have hx' : upd H dx (.own x) x = none := by rw [upd_ne ne.symm]; exact hx
  exact rel_addH (o := .ins C dx []) (rl.ext (ext_upd hd)) hx' ⟨C, dx, [], n, ks, h1, h2, upd_same, rfl, rfl⟩
/-- a class of the program, made by its own __init__ -/
structure MkB (X : Cx) (tab : List (Str × List Str)) (k : Nat) (x : Str) (c : Nat) (f : Fn) : Prop where
  ok : ∃ ks C fI fd ps, tab[c]? = some (x, ks) ∧ X.mg x = some (.ref C) ∧ Mk X.K C fI ∧ FnOk X.prog X.w X.K X.mg X.base (L2.CX X.prog X.w) k fI fd ps (spB (sg X tab) f) ∧ Binds X.K fd ps []
theorem mk_use {S : Sg} {g : Gh} {m : Sto} {H : Hp} {x dx C : Addr} {c : Nat} {n : Str} {ks : List Str} {ts : List T} {vs : List V} {f : Fn} {Q : VK} {E : XK} (rl : Rel S g m H) (hx : H x = none) (hd : H dx = none) (ne : dx ≠ x) (h1 : S.tab[c]? = some (n, ks)) (h2 : S.mg n = some (.ref C))
    (r : reps S g H ts vs) (p : PoT S g H Q E (mkT c f ts m)) :
    spB S f (.ref x :: vs) (upd (upd H dx (.own x)) x (.ins C dx [])) (fun v H2 => v = .non ∧ Q (.ref x) H2) E := by
  have st := stp_addI (C := C) rl hx hd ne
  have re := rel_addI (C := C) (c := c) rl hx hd ne h1 h2
  refine ⟨addH g x, m ++ [.ins c []], .hd m.length :: ts, re, ⟨_, vs, rfl, ⟨x, rfl, ?_⟩, reps_mono st _ _ r⟩, ?_⟩
  · show (g.ph ++ [x])[m.length]? = some x
    rw [← rl.len, List.getElem?_append_right (Nat.le_refl _), Nat.sub_self]
    rfl
  · unfold mkT at p
    refine Po.imp (Po.later st (Po.bind p)) fun g' H' t m' s' r' ⟨_, _, q⟩ v hv => ?_
    cases t <;> first | exact q.elim | skip
    refine ⟨hv, q g' H' (Stp.refl _ _) r' (.ref x) ⟨x, rfl, ?_⟩⟩
    refine s'.at ?_
    show (g.ph ++ [x])[m.length]? = some x
    rw [← rl.len, List.getElem?_append_right (Nat.le_refl _), Nat.sub_self]
    rfl
theorem be_mk {x : Str} {p pos : Pos} {a : Expr} {es : List Expr} {fl : Sl → Sto → Rs (List T)} {f : Fn} {k c : Nat} (tk : Takes X W) (hr : Room (k + 1) X.A) (hg : Gl X x) (M : MkB X tab k x c f) (hd : (x == ("__debug__" : Str)) = false) (hs : ∀ x p, a ≠ .Starred x p) (hpl : (backTo pos (starEach es X.env)).any (·.1) = false) (h : BA X tab z W (a :: es) fl) :
    BE X tab z W (.Call (.Name x p) (a :: es) [] pos) (fun e m => (fl e m).bind fun ts m' => mkT c f ts m') := by
  obtain ⟨ks, C, fI, fd, ps, h1, h2, M, F, hb⟩ := M.ok
  refine pe_w (pe_makeB tk M F hr hg h2 hb hd hs hpl h) fun σ H Q ⟨g, e, m, rl, so, q⟩ => ?_
  refine liftA_eq rl so q fun g1 H1 ts m1 vs eq r1 so1 s1 hvs p1 => ?_
  exact fun x dx hx hdx ne => mk_use r1 hx hdx ne h1 h2 hvs p1
theorem be_mkD {x : Str} {p pos : Pos} {a : Expr} {es : List Expr} {fl : Sl → Sto → Rs (List T)} {f : Fn} {k c : Nat} {ks : List Str} {C fI : Addr} {fd : FuncData} {ps : List Str} {ds : List Value} {v : V} {d : T} (tk : Takes X W) (hr : Room (k + 1) X.A) (hg : Gl X x) (h1 : tab[c]? = some (x, ks)) (h2 : X.mg x = some (.ref C)) (M : Mk X.K C fI) (F : FnOk X.prog X.w X.K X.mg X.base (L2.CX X.prog X.w) k fI fd ps (spB (sg X tab) f)) (hb : Binds X.K fd ps ds) (hv : Vals [v] ds) (hd0 : rep0 X.K d v) (hd : (x == ("__debug__" : Str)) = false) (hs : ∀ x p, a ≠ .Starred x p) (hpl : (backTo pos (starEach es X.env)).any (·.1) = false) (h : BA X tab z W (a :: es) fl) :
    BE X tab z W (.Call (.Name x p) (a :: es) [] pos) (fun e m => (fl e m).bind fun ts m' => mkT c f (ts ++ [d]) m') := by
  refine pe_w (pe_makeD tk M F hr hg h2 hb hv hd hs hpl h) fun σ H Q ⟨g, e, m, rl, so, q⟩ => ?_
  refine liftA_eq rl so q fun g1 H1 ts m1 vs eq r1 so1 s1 hvs p1 => ?_
  exact fun x dx hx hdx ne => mk_use r1 hx hdx ne h1 h2 (reps_app hvs (show reps (sg X tab) g1 H1 [d] [v] from ⟨v, [], rfl, hd0 _ g1 H1 rfl, rfl⟩)) p1
theorem be_mk0 {x : Str} {p pos : Pos} {f : Fn} {k c : Nat} (tk : Takes X W) (hr : Room (k + 1) X.A) (hg : Gl X x) (M : MkB X tab k x c f) (hd : (x == ("__debug__" : Str)) = false) :
    BE X tab z W (.Call (.Name x p) [] [] pos) (fun _ m => mkT c f [] m) := by
  obtain ⟨ks, C, fI, fd, ps, h1, h2, M, F, hb⟩ := M.ok
  refine pe_w (pe_makeB0 tk M F hr hg h2 hb hd) fun σ H Q ⟨g, e, m, rl, so, q⟩ => ?_
  exact fun x dx hx hdx ne => mk_use (ts := []) (vs := []) rl hx hdx ne h1 h2 rfl q
end
end BV
/-! statements -/
namespace BV
open PySem PySem.Spec L2
section
variable {X : Cx} {tab : List (Str × List Str)} {z : Option Xz} {W : WX}
def PoS (S : Sg) (z : Option Xz) (g : Gh) (H : Hp) (D : Ends) (W : WX) (r : RS) : Prop := match r with
  | .nx e m => ∀ g' H' σ', Stp g H g' H' → Rel S g' m H' → slotsOk S z g' H' e σ' → D.nx σ' H'
  | .rt t m => ∀ g' H' v, Stp g H g' H' → Rel S g' m H' → rep S g' H' t v → D.rt v H'
  | .bk e m => ∀ g' H' σ', Stp g H g' H' → Rel S g' m H' → slotsOk S z g' H' e σ' → D.bk σ' H'
  | .ct e m => ∀ g' H' σ', Stp g H g' H' → Rel S g' m H' → slotsOk S z g' H' e σ' → D.ct σ' H'
  | .exc c xs e m => ∀ g' H' σ' cls d, Stp g H g' H' → Rel S g' m H' → slotsOk S z g' H' e σ' → repX S g' H' c xs cls d → W cls d σ' H'
  | .bad => False
def liftS (S : Sg) (z : Option Xz) (W : WX) (f : Sl → Sto → RS) : TS := fun D σ H => ∃ g e m, Rel S g m H ∧ slotsOk S z g H e σ ∧ PoS S z g H D W (f e m)
abbrev BS (X : Cx) (tab : List (Str × List Str)) (z : Option Xz) (W : WX) (st : Stmt) (f : Sl → Sto → RS) : Prop := PS X st (liftS (sg X tab) z W f)
abbrev BSs (X : Cx) (tab : List (Str × List Str)) (z : Option Xz) (W : WX) (st : List Stmt) (f : Sl → Sto → RS) : Prop := PSs X st (liftS (sg X tab) z W f)
theorem ps_w {st : Stmt} {t t' : TS} (h : PS X st t) (k : ∀ D σ H, t' D σ H → t D σ H) : PS X st t' := ⟨fun pins s σ H D I q => h.run pins s σ H D I (k D σ H q)⟩
theorem pss_w {st : List Stmt} {t t' : TS} (h : PSs X st t) (k : ∀ D σ H, t' D σ H → t D σ H) : PSs X st t' := ⟨fun pins s σ H D I q => h.run pins s σ H D I (k D σ H q)⟩
theorem PoS.later {S : Sg} {g g1 : Gh} {H H1 : Hp} {D : Ends} {r : RS} (s : Stp g H g1 H1) (h : PoS S z g H D W r) : PoS S z g1 H1 D W r := by
  cases r with
  | nx e m => exact fun g' H' σ' s' => h g' H' σ' (s.trans s')
  | rt t m => exact fun g' H' σ' s' => h g' H' σ' (s.trans s')
  | bk e m => exact fun g' H' σ' s' => h g' H' σ' (s.trans s')
  | ct e m => exact fun g' H' σ' s' => h g' H' σ' (s.trans s')
  | exc c xs e m => exact fun g' H' σ' cls d s' => h g' H' σ' cls d (s.trans s')
  | bad => exact h
/-- an expression's part of a statement -/
theorem PoS.st {S : Sg} {g : Gh} {H : Hp} {D : Ends} {α : Type} {r : Rs α} {e : Sl} {σ : L2.St} {k : α → Sto → RS} (so : slotsOk S z g H e σ) (h : PoS S z g H D W (r.st e k)) :
    Po S g H (fun g' H' a m' => Stp g H g' H' ∧ r = .ok a m' ∧ PoS S z g' H' D W (k a m')) (fun c d H' => W c d σ H') r := by
  cases r with
  | ok a m' => exact fun g' H' s' rl => ⟨s', rfl, PoS.later s' (show PoS S z g H D W (k a m') from h)⟩
  | exc c xs m' => exact fun g' H' cls d s' rl hx => h g' H' σ cls d s' rl (slots_mono s' so) hx
  | bad => exact h
theorem lift_st {S : Sg} {f : Sl → Sto → Rs T} {σ : L2.St} {H : Hp} {Q : VK} {D : Ends} {g : Gh} {e : Sl} {m : Sto} {k : T → Sto → RS}
    (rl : Rel S g m H) (so : slotsOk S z g H e σ) (p : PoS S z g H D W ((f e m).st e k))
    (h : ∀ g1 H1 x m1 v, Rel S g1 m1 H1 → slotsOk S z g1 H1 e σ → Stp g H g1 H1 → rep S g1 H1 x v → PoS S z g1 H1 D W (k x m1) → Q v H1) : lift S z W f σ H Q :=
  ⟨g, e, m, rl, so, Po.imp (PoS.st so p) fun g1 H1 x m1 s1 r1 q v hv => h g1 H1 x m1 v r1 (slots_mono s1 so) s1 hv q.2.2⟩
theorem liftA_st {S : Sg} {f : Sl → Sto → Rs (List T)} {σ : L2.St} {H : Hp} {Q : List V → Hp → Prop} {D : Ends} {g : Gh} {e : Sl} {m : Sto} {k : List T → Sto → RS}
    (rl : Rel S g m H) (so : slotsOk S z g H e σ) (p : PoS S z g H D W ((f e m).st e k))
    (h : ∀ g1 H1 x m1 v, Rel S g1 m1 H1 → slotsOk S z g1 H1 e σ → Stp g H g1 H1 → reps S g1 H1 x v → PoS S z g1 H1 D W (k x m1) → Q v H1) : liftA S z W f σ H Q :=
  ⟨g, e, m, rl, so, Po.imp (PoS.st so p) fun g1 H1 x m1 s1 r1 q v hv => h g1 H1 x m1 v r1 (slots_mono s1 so) s1 hv q.2.2⟩
theorem liftT_st {S : Sg} {f : Sl → Sto → Rs T} {σ : L2.St} {H : Hp} {Q : Bool → Hp → Prop} {D : Ends} {g : Gh} {e : Sl} {m : Sto} {k : T → Sto → RS}
    (rl : Rel S g m H) (so : slotsOk S z g H e σ) (p : PoS S z g H D W ((f e m).st e k)) (hb : ∀ t m', (∀ b, t ≠ .bl b) → k t m' = .bad)
    (h : ∀ g1 H1 b m1, Rel S g1 m1 H1 → slotsOk S z g1 H1 e σ → Stp g H g1 H1 → PoS S z g1 H1 D W (k (.bl b) m1) → Q b H1) : liftT S z W f σ H Q :=
  ⟨g, e, m, rl, so, Po.imp (PoS.st so p) fun g1 H1 x m1 s1 r1 q => by
    by_cases c : ∃ b, x = .bl b
    · obtain ⟨b, rfl⟩ := c
      exact ⟨b, rfl, h g1 H1 b m1 r1 (slots_mono s1 so) s1 q.2.2⟩
    · have e := hb x m1 fun b z => c ⟨b, z⟩
      have q2 := q.2.2
      rw [e] at q2
      exact q2.elim⟩
theorem PoS.nx {S : Sg} {g : Gh} {m : Sto} {H : Hp} {D : Ends} {e : Sl} {σ : L2.St} (h : PoS S z g H D W (.nx e m)) (rl : Rel S g m H) (so : slotsOk S z g H e σ) : D.nx σ H := h g H σ (Stp.refl g H) rl so
theorem PoS.rt {S : Sg} {g : Gh} {m : Sto} {H : Hp} {D : Ends} {t : T} {v : V} (h : PoS S z g H D W (.rt t m)) (rl : Rel S g m H) (r : rep S g H t v) : D.rt v H := h g H v (Stp.refl g H) rl r
theorem slots_set {S : Sg} {g : Gh} {H : Hp} {e : Sl} {σ : L2.St} {i : Nat} {t : T} {v : V} (so : slotsOk S z g H e σ) (r : rep S g H t v) (hz : ∀ x, z = some x → x.i ≠ i) : slotsOk S z g H (e.set i (some t)) (σ.set i (some v)) := by
  obtain ⟨h1, h2, h3⟩ := so
  refine ⟨by rw [List.length_set, List.length_set]; exact h1, fun j u q => ?_, fun x hx c xs q => ?_⟩
  · by_cases hj : i = j
    · subst hj
      by_cases hl : i < e.length
      · rw [List.getElem?_set_self hl] at q
        obtain rfl : t = u := Option.some.inj (Option.some.inj q)
        exact ⟨v, by rw [List.getElem?_set_self (by rw [← h1]; exact hl)], r⟩
      · rw [List.getElem?_eq_none (by rw [List.length_set]; omega)] at q
        cases q
    · rw [List.getElem?_set_ne hj] at q
      obtain ⟨w, w1, w2⟩ := h2 j u q
      exact ⟨w, by rw [List.getElem?_set_ne hj]; exact w1, w2⟩
  · have ne := (hz x hx).symm
    rw [List.getElem?_set_ne ne] at q
    obtain ⟨w1, w2⟩ := h3 x hx c xs q
    exact ⟨by rw [List.getElem?_set_ne ne]; exact w1, w2⟩
theorem bs_nil : BSs X tab z W [] (fun e m => .nx e m) := pss_w pss_nil fun D σ H ⟨g, e, m, rl, so, p⟩ => p.nx rl so
theorem bs_cons {st : Stmt} {rest : List Stmt} {f fr : Sl → Sto → RS} (h1 : BS X tab z W st f) (h2 : BSs X tab z W rest fr) : BSs X tab z W (st :: rest) (fun e m => (f e m).seq fun e' m' => fr e' m') := by
  refine pss_w (pss_cons h1 h2) fun D σ H ⟨g, e, m, rl, so, p⟩ => ⟨g, e, m, rl, so, ?_⟩
  dsimp only at p
  cases q : f e m with
  | nx e' m' =>
    rw [q] at p
    exact fun g' H' σ' s' rl' so' => ⟨g', e', m', rl', so', PoS.later s' p⟩
  | rt t m' => rw [q] at p; exact p
  | bk e' m' => rw [q] at p; exact p
  | ct e' m' => rw [q] at p; exact p
  | exc c xs e' m' => rw [q] at p; exact p
  | bad => rw [q] at p; exact p
theorem bs_pass {pos : Pos} : BS X tab z W (.Pass pos) (fun e m => .nx e m) := ps_w ps_pass fun D σ H ⟨g, e, m, rl, so, p⟩ => p.nx rl so
theorem bs_brk {pos : Pos} : BS X tab z W (.Break pos) (fun e m => .bk e m) := ps_w ps_break fun D σ H ⟨g, e, m, rl, so, p⟩ => p g H σ (Stp.refl g H) rl so
theorem bs_cont {pos : Pos} : BS X tab z W (.Continue pos) (fun e m => .ct e m) := ps_w ps_continue fun D σ H ⟨g, e, m, rl, so, p⟩ => p g H σ (Stp.refl g H) rl so
theorem bs_doc {x : Str} {j : Nat} {pos pos' : Pos} : BS X tab z W (.Expr (.Constant (.str x) j pos) pos') (fun e m => .nx e m) := ps_w ps_doc fun D σ H ⟨g, e, m, rl, so, p⟩ => p.nx rl so
theorem bs_expr {a : Expr} {f : Sl → Sto → Rs T} {pos : Pos} (hs : swapsWith a none pos.line X.env = pure false) (h : BE X tab z W a f) : BS X tab z W (.Expr a pos) (fun e m => (f e m).st e fun _ m1 => .nx e m1) := by
  refine ps_w (ps_expr h hs) fun D σ H ⟨g, e, m, rl, so, p⟩ => ?_
  exact lift_st rl so p fun g1 H1 x m1 v r1 so1 s1 hv p1 => p1.nx r1 so1
theorem bs_ret {a : Expr} {f : Sl → Sto → Rs T} {pos : Pos} (h : BE X tab z W a f) : BS X tab z W (.Return (some a) pos) (fun e m => (f e m).st e fun x m1 => .rt x m1) := by
  refine ps_w (ps_ret h) fun D σ H ⟨g, e, m, rl, so, p⟩ => ?_
  exact lift_st rl so p fun g1 H1 x m1 v r1 so1 s1 hv p1 => p1.rt r1 hv
theorem bs_retN {pos : Pos} : BS X tab z W (.Return none pos) (fun _ m => .rt .non m) := ps_w ps_retN fun D σ H ⟨g, e, m, rl, so, p⟩ => p.rt rl rfl
theorem bs_ite {c : Expr} {a b : List Stmt} {fc : Sl → Sto → Rs T} {fa fb : Sl → Sto → RS} {pos : Pos} (hc : BT X tab z W c fc) (ha : BSs X tab z W a fa) (hb : BSs X tab z W b fb) :
    BS X tab z W (.If c a b pos) (fun e m => (fc e m).st e fun x m1 => match x with | .bl true => fa e m1 | .bl false => fb e m1 | _ => .bad) := by
  refine ps_w (ps_if hc ha hb) fun D σ H ⟨g, e, m, rl, so, p⟩ => ?_
  refine liftT_st rl so p (fun t m' n => ?_) fun g1 H1 b m1 r1 so1 s1 p1 => ?_
  · cases t <;> first | rfl | exact absurd rfl (n _)
  · cases b with
    | true => exact ⟨g1, e, m1, r1, so1, p1⟩
    | false => exact ⟨g1, e, m1, r1, so1, p1⟩
theorem bs_set {i : Nat} {x : Str} {a : Expr} {f : Sl → Sto → Rs T} {pos pos' : Pos} (h : PS X (.Assign [.Name x pos'] a pos) (tAsg (lift (sg X tab) z W f) (gName i))) (hz : ∀ x, z = some x → x.i ≠ i) :
    BS X tab z W (.Assign [.Name x pos'] a pos) (fun e m => (f e m).st e fun x m1 => .nx (e.set i (some x)) m1) := by
  refine ps_w h fun D σ H ⟨g, e, m, rl, so, p⟩ => ?_
  exact lift_st rl so p fun g1 H1 x m1 v r1 so1 s1 hv p1 => p1.nx r1 (slots_set so1 hv hz)
theorem pip_add : PIp X .Add (rI0 fun i j => .int (i + j)) := fun pins s σ H x y u w Q I rx ry h => augR iop_add I rx ry h
theorem bs_aug {i : Nat} {x : Str} {a : Expr} {f : Sl → Sto → Rs T} {pos pos' : Pos} (hN : X.N.Nodup) (hi : X.N[i]? = some x) (hx : Loc X.env.scope x) (hf : X.fn x = true ∨ X.env.scope.names.lookup x = some .local) (h : BE X tab z W a f) (hz : ∀ x, z = some x → x.i ≠ i) :
    BS X tab z W (.AugAssign (.Name x pos') .Add a pos) (fun e m => match e[i]? with
      | some (some (.int x)) => (f e m).st e fun y m1 => match y with
        | .int j => .nx (e.set i (some (.int (x + j)))) m1
        | _ => .bad
      | _ => .bad) := by
  refine ps_w (ps_aug hN hi hx h pip_add hf) fun D σ H ⟨g, e, m, rl, so, p⟩ => ?_
  dsimp only at p
  split at p
  · rename_i n q
    obtain ⟨v, hv, rv⟩ := so.2.1 i _ q
    obtain rfl : v = .int n := rv
    refine ⟨_, hv, ?_⟩
    refine lift_st rl so p fun g1 H1 y m1 v r1 so1 s1 hv p1 => ?_
    cases y with
    | int j =>
      obtain rfl : v = .int j := hv
      exact ⟨n, j, rfl, rfl, p1.nx r1 (slots_set so1 rfl hz)⟩
    | _ => exact p1.elim
  · exact p.elim
/-! ### targets -/
/-- a target's reading, from the slots' own -/
def TgOk (S : Sg) (z : Option Xz) (tg : Tg) (G : TG) : Prop := ∀ (g : Gh) (m : Sto) (H : Hp) (e e' : Sl) (σ : L2.St) (t : T) (v : V) (K : L2.St → Hp → Prop), Rel S g m H → slotsOk S z g H e σ → rep S g H t v → bindT tg t e = some e' →
  (∀ σ', slotsOk S z g H e' σ' → K σ' H) → G v σ H K
theorem tg_one {S : Sg} {i : Nat} (hz : ∀ x, z = some x → x.i ≠ i) : TgOk S z (.one i) (gName i) := by
  intro g m H e e' σ t v K rl so r hb k
  obtain rfl : e.set i (some t) = e' := Option.some.inj hb
  exact k _ (slots_set so r hz)
def gSlots : List Nat → TGs
  | [] => gNil
  | i :: is => gCons (gName i) (gSlots is)
theorem tg_slots {S : Sg} {g : Gh} {H : Hp} : ∀ {is : List Nat} {e e' : Sl} {σ : L2.St} {ts : List T} {vs : List V} {K : L2.St → Hp → Prop}, (∀ i ∈ is, ∀ x, z = some x → x.i ≠ i) → slotsOk S z g H e σ → reps S g H ts vs → bindN is ts e = some e' →
    (∀ σ', slotsOk S z g H e' σ' → K σ' H) → gSlots is vs σ H K
  | [], e, e', σ, [], vs, K, hz, so, r, hb, k => by
    obtain rfl : e = e' := Option.some.inj hb
    exact ⟨r, k σ so⟩
  | i :: is, e, e', σ, t :: ts, vs, K, hz, so, r, hb, k => by
    obtain ⟨v, r', rfl, h1, h2⟩ := r
    exact ⟨v, r', rfl, tg_slots (fun j hj => hz j (List.mem_cons_of_mem _ hj)) (slots_set so h1 (hz i List.mem_cons_self)) h2 hb k⟩
  | [], _, _, _, _ :: _, _, _, _, _, _, hb, _ => nomatch hb
  | _ :: _, _, _, _, [], _, _, _, _, _, hb, _ => nomatch hb
theorem bindN_len : ∀ {is : List Nat} {ts : List T} {e e' : Sl}, bindN is ts e = some e' → ts.length = is.length
  | [], [], _, _, _ => rfl
  | i :: is, t :: ts, e, e', h => by
    rw [List.length_cons, List.length_cons, bindN_len (show bindN is ts _ = some e' from h)]
  | [], _ :: _, _, _, h => nomatch h
  | _ :: _, [], _, _, h => nomatch h
/-- a tuple's items, or a list's -/
def gSq (K : PySem.W.Frag) (n : Nat) (t : TGs) : TG := fun v σ H Q => gTup K n t v σ H Q ∨ gLst K n t v σ H Q
theorem pg_sq {es : List Expr} {k : Nat} {pos : Pos} {t : TGs} {n : Nat} (hc : X.calm = true) (h : PGs X es t) (hn : (assignEach es X.env).length = n) (hst : (assignEach es X.env).findIdx? (·.1) = none) : PG X (.Tuple es k pos) (gSq X.K n t) :=
  ⟨fun pins s σ H v u Q I r q => by
    rcases q with q | q
    · exact (pg_tup hc h hn hst).run pins s σ H v u Q I r q
    · exact (pg_lst hc h hn hst).run pins s σ H v u Q I r q⟩
theorem tg_many {S : Sg} {is : List Nat} (hz : ∀ i ∈ is, ∀ x, z = some x → x.i ≠ i) : TgOk S z (.many is) (gSq S.K is.length (gSlots is)) := by
  intro g m H e e' σ t v K rl so r hb k
  cases t with
  | tup ts =>
    obtain ⟨a, vs, rfl, q, l, rr⟩ := r
    have hb' : bindN is ts e = some e' := hb
    exact .inl ⟨a, vs, rfl, q, by rw [reps_len rr, bindN_len hb'], tg_slots hz so rr hb' k⟩
  | lst ts =>
    obtain ⟨a, vs, rfl, na, q, l, rr⟩ := r
    have hb' : bindN is ts e = some e' := hb
    exact .inr ⟨a, vs, rfl, SqL.of q, by rw [reps_len rr, bindN_len hb'], tg_slots hz so rr hb' k⟩
  | _ => cases hb
theorem bs_bnd {is : List Nat} {tg a : Expr} {f : Sl → Sto → Rs T} {pos : Pos} (h : PS X (.Assign [tg] a pos) (tAsg (lift (sg X tab) z W f) (gSq X.K is.length (gSlots is)))) (hz : ∀ i ∈ is, ∀ x, z = some x → x.i ≠ i) :
    BS X tab z W (.Assign [tg] a pos) (fun e m => (f e m).st e fun x m1 => match bindT (.many is) x e with | some e' => .nx e' m1 | none => .bad) := by
  refine ps_w h fun D σ H ⟨g, e, m, rl, so, p⟩ => ?_
  refine lift_st rl so p fun g1 H1 x m1 v r1 so1 s1 hv p1 => ?_
  split at p1
  · rename_i e' he
    exact tg_many (S := sg X tab) hz g1 m1 H1 e e' σ x v D.nx r1 so1 hv he fun σ' so' => p1.nx r1 so'
  · exact p1.elim
/-! ### things that change -/
theorem stp_cell {g : Gh} {H : Hp} {p : Addr} {u o : HO} (hp : p ∈ g.ph) (hu : H p = some u) (nt : ∀ xs, u ≠ .tup xs) (nf : ∀ o' w, u ≠ .frz o' w) : Stp g H g (upd H p o) := by
  have ne : ∀ a, a ∉ g.ph → a ≠ p := fun a n z => n (by rw [z]; exact hp)
  refine ⟨⟨[], by simp⟩, fun a w h n => ⟨by rw [upd_ne (ne a n)]; exact h, Iff.rfl⟩, fun a h => ?_, fun a xs h => ?_, fun a o' w h => ?_, fun a h n => n⟩
  · by_cases e : a = p
    · rw [e, upd_same]; exact fun z => nomatch z
    · rw [upd_ne e]; exact h
  · rw [upd_ne (fun e => by rw [e, hu] at h; exact nt xs (Option.some.inj h))]
    exact h
  · rw [upd_ne (fun e => by rw [e, hu] at h; exact nf o' w (Option.some.inj h))]
    exact h
theorem rel_cell {S : Sg} {g : Gh} {m : Sto} {H : Hp} {p : Addr} {u o : HO} {n : Nat} {c : Cell} (rl : Rel S g m H) (hp : g.ph[n]? = some p) (hu : H p = some u) (nt : ∀ xs, u ≠ .tup xs) (nf : ∀ o' w, u ≠ .frz o' w)
    (hc : cellOk S g (upd H p o) p c) : Rel S g (m.set n c) (upd H p o) := by
  have hm : p ∈ g.ph := List.mem_of_getElem? hp
  have st := stp_cell (o := o) hm hu nt nf
  refine ⟨by rw [List.length_set]; exact rl.len, rl.nd, fun a h => st.hs a (rl.has a h), fun k a c' h1 h2 => ?_⟩
  by_cases hk : n = k
  · subst hk
    have hl : n < m.length := by rw [← rl.len]; exact (List.getElem?_eq_some_iff.mp hp).1
    rw [List.getElem?_set_self hl] at h2
    obtain rfl : c = c' := Option.some.inj h2
    rw [hp] at h1
    obtain rfl : p = a := Option.some.inj h1
    exact hc
  · rw [List.getElem?_set_ne hk] at h2
    have ne : a ≠ p := fun e => by
      subst e
      have l1 := List.getElem?_eq_some_iff.mp hp
      have l2 := List.getElem?_eq_some_iff.mp h1
      obtain ⟨i1, j1⟩ := l1
      obtain ⟨i2, j2⟩ := l2
      exact hk ((List.getElem_inj rl.nd).mp (j1.trans j2.symm))
    exact cell_mono st (fun w h => by rw [upd_ne ne]; exact h) (rl.cell k a c' h1 h2)
/-- a list at a handle turns -/
theorem turn_lst {S : Sg} {g : Gh} {m : Sto} {H : Hp} {n : Nat} {p : Addr} {ys : List T} {vs ws : List V} (rl : Rel S g m H) (hp : g.ph[n]? = some p) (hv : H p = some (.lst vs)) (l : ys.length ≤ 16777216) (r : reps S g H ys ws) :
    Stp g H g (upd H p (.lst ws)) ∧ Rel S g (m.set n (.lst ys)) (upd H p (.lst ws)) := by
  have hm : p ∈ g.ph := List.mem_of_getElem? hp
  have st := stp_cell (o := .lst ws) hm hv (fun _ z => nomatch z) (fun _ _ z => nomatch z)
  exact ⟨st, rel_cell rl hp hv (fun _ z => nomatch z) (fun _ _ z => nomatch z) ⟨ws, upd_same, l, reps_mono st _ _ r⟩⟩
/-- o.m(..) of a list at a handle, its value dropped -/
def rLm (k : LM) (K : PySem.W.Frag) : V → List V → Hp → VK → Prop := match k with
  | .app => rAppend
  | .ext => rExtend
  | .clr => rClear
theorem lm_ok {S : Sg} {k : LM} {g : Gh} {m : Sto} {H : Hp} {n : Nat} {v : V} {xs ys ts : List T} {us : List V} {Q : VK} (rl : Rel S g m H) (hv : rep S g H (.hd n) v) (hn : m[n]? = some (.lst xs)) (hu : reps S g H ts us) (e : lmT k xs ts m = some ys)
    (q : ∀ g' H', Stp g H g' H' → Rel S g' (m.set n (.lst ys)) H' → Q .non H') : rLm k S.K v us H Q := by
  obtain ⟨p, rfl, hp⟩ := hv
  obtain ⟨vs, h1, h2, h3⟩ := rl.cell n p _ hp hn
  unfold lmT at e
  split at e
  · split at e
    · rename_i t c
      obtain rfl := Option.some.inj e
      obtain ⟨w, rfl, hw⟩ := reps1 hu
      refine ⟨p, vs, w, rfl, rfl, h1, by rw [sizeL, reps_len h3]; exact c, ?_⟩
      obtain ⟨st, r'⟩ := turn_lst (ys := xs ++ [t]) (ws := vs ++ [w]) rl hp h1 (by rw [List.length_append]; show _ + 1 ≤ _; omega) (reps_app h3 ⟨w, [], rfl, hw, rfl⟩)
      exact q _ _ st r'
    · cases e
  · split at e
    · rename_i t zs ez
      split at e
      · rename_i c
        obtain rfl := Option.some.inj e
        obtain ⟨w, rfl, hw⟩ := reps1 hu
        obtain ⟨b, ws, rfl, k1, k2, k3⟩ := lstOf_rep rl ez hw
        refine ⟨p, b, vs, ws, rfl, rfl, h1, k1, by rw [sizeL, reps_len h3, reps_len k2]; exact c, ?_⟩
        obtain ⟨st, r'⟩ := turn_lst (ys := xs ++ zs) (ws := vs ++ ws) rl hp h1 (by rw [List.length_append]; exact c) (reps_app h3 k2)
        exact q _ _ st r'
      · cases e
    · cases e
  · obtain rfl := Option.some.inj e
    obtain rfl : us = [] := hu
    refine ⟨p, vs, rfl, rfl, h1, ?_⟩
    obtain ⟨st, r'⟩ := turn_lst (ys := []) (ws := []) rl hp h1 (Nat.zero_le _) rfl
    exact q _ _ st r'
  · cases e
theorem tyL {S : Sg} {g : Gh} {m : Sto} {H : Hp} {n : Nat} {v : V} {xs : List T} (rl : Rel S g m H) (hv : rep S g H (.hd n) v) (hn : m[n]? = some (.lst xs)) : tyV S.K "list" v H := by
  obtain ⟨p, rfl, hp⟩ := hv
  obtain ⟨vs, h1, h2, h3⟩ := rl.cell n p _ hp hn
  exact .inl ⟨rfl, vs, SqL.of h1⟩
def lmD (k : LM) (fo : Sl → Sto → Rs T) (fl : Sl → Sto → Rs (List T)) : Sl → Sto → RS := fun e m => (fo e m).st e fun t m1 => match t with
    | .hd n => match m1[n]? with
      | some (.lst _) => (fl e m1).st e fun ts m2 => match m2[n]? with
        | some (.lst xs) => match lmT k xs ts m2 with
          | some ys => .nx e (m2.set n (.lst ys))
          | none => .bad
        | _ => .bad
      | _ => .bad
    | _ => .bad
theorem bs_lm {k : LM} {st : Stmt} {fo : Sl → Sto → Rs T} {fl : Sl → Sto → Rs (List T)} (h : PS X st (tDrop (tBM X.K "list" (rLm k X.K) (lift (sg X tab) z W fo) (liftA (sg X tab) z W fl)))) : BS X tab z W st (lmD k fo fl) := by
  refine ps_w h fun D σ H ⟨g, e, m, rl, so, p⟩ => ?_
  unfold lmD at p
  refine lift_st rl so p fun g1 H1 x m1 v r1 so1 s1 hv p1 => ?_
  split at p1
  · rename_i n
    split at p1
    · rename_i xs hn
      refine ⟨tyL r1 hv hn, liftA_st r1 so1 p1 fun g2 H2 ts m2 us r2 so2 s2 hu p2 => ?_⟩
      split at p2
      · rename_i ys hn2
        split at p2
        · rename_i ws he
          refine lm_ok r2 (rep_mono s2 _ _ hv) hn2 hu he fun g' H' s' r' => ?_
          exact p2 g' H' σ s' r' (slots_mono s' so2)
        · exact p2.elim
      · exact p2.elim
    · exact p1.elim
  · exact p1.elim
theorem bs_lm0 {k : LM} {st : Stmt} {fo : Sl → Sto → Rs T} (h : PS X st (tDrop (tBM0 X.K "list" (rLm k X.K) (lift (sg X tab) z W fo)))) : BS X tab z W st (lmD k fo (fun _ m => .ok [] m)) := by
  refine ps_w h fun D σ H ⟨g, e, m, rl, so, p⟩ => ?_
  unfold lmD at p
  refine lift_st rl so p fun g1 H1 x m1 v r1 so1 s1 hv p1 => ?_
  split at p1
  · rename_i n
    split at p1
    · rename_i xs hn
      refine ⟨tyL r1 hv hn, ?_⟩
      simp only [st_ok] at p1
      rw [hn] at p1
      dsimp only at p1
      split at p1
      · rename_i ws he
        refine lm_ok r1 hv hn (ts := []) (us := []) rfl he fun g' H' s' r' => ?_
        exact p1 g' H' σ s' r' (slots_mono s' so1)
      · exact p1.elim
    · exact p1.elim
  · exact p1.elim
/-! dicts that turn -/
theorem put_rel {S : Sg} {g : Gh} {H : Hp} {k : L2.Key} {t : T} {v : V} (hv : rep S g H t v) : ∀ {kvs : List (L2.Key × T)} {us : List (L2.Key × V)}, us.map (·.1) = kvs.map (·.1) → reps S g H (kvs.map (·.2)) (us.map (·.2)) →
    (putK us k v).map (·.1) = (dputT kvs k t).map (·.1) ∧ reps S g H ((dputT kvs k t).map (·.2)) ((putK us k v).map (·.2)) := by
  intro kvs us h r
  have any : (us.any fun kv => decide (kv.1 = k)) = (kvs.any fun kv => decide (kv.1 = k)) := by
    have e1 : (us.any fun kv => decide (kv.1 = k)) = (us.map (·.1)).any fun x => decide (x = k) := by rw [List.any_map]; rfl
    have e2 : (kvs.any fun kv => decide (kv.1 = k)) = (kvs.map (·.1)).any fun x => decide (x = k) := by rw [List.any_map]; rfl
    rw [e1, e2, h]
  have mp : ∀ {kvs : List (L2.Key × T)} {us : List (L2.Key × V)}, us.map (·.1) = kvs.map (·.1) → reps S g H (kvs.map (·.2)) (us.map (·.2)) →
      (us.map fun kv => if kv.1 = k then (kv.1, v) else kv).map (·.1) = (kvs.map fun kv => if kv.1 = k then (kv.1, t) else kv).map (·.1) ∧ reps S g H ((kvs.map fun kv => if kv.1 = k then (kv.1, t) else kv).map (·.2)) ((us.map fun kv => if kv.1 = k then (kv.1, v) else kv).map (·.2)) := by
    intro kvs
    induction kvs with
    | nil =>
      intro us h r
      cases us with
      | nil => exact ⟨rfl, rfl⟩
      | cons _ _ => cases h
    | cons p kvs ih =>
      intro us h r
      cases us with
      | nil => cases h
      | cons q us =>
        obtain ⟨e1, e2⟩ := List.cons.inj h
        obtain ⟨w, l, e3, r1, r2⟩ := r
        obtain ⟨e4, e5⟩ := List.cons.inj e3
        subst e5
        have e4 : q.2 = w := e4
        subst e4
        obtain ⟨i1, i2⟩ := ih e2 r2
        have e1 : q.1 = p.1 := e1
        by_cases c : q.1 = k
        · have c2 : p.1 = k := by rw [← e1]; exact c
          simp only [List.map_cons, c, c2, if_true]
          exact ⟨by rw [i1], _, _, rfl, hv, i2⟩
        · have c2 : ¬ p.1 = k := by rw [← e1]; exact c
          simp only [List.map_cons, c, c2, if_false]
          exact ⟨by rw [i1, e1], _, _, rfl, r1, i2⟩
  unfold putK dputT
  rw [any]
  split
  · exact mp h r
  · refine ⟨by rw [List.map_append, List.map_append, h]; rfl, ?_⟩
    rw [List.map_append, List.map_append]
    exact reps_app r ⟨v, [], rfl, hv, rfl⟩
theorem dput_len (kvs : List (L2.Key × T)) (k : L2.Key) (t : T) : (dputT kvs k t).length ≤ kvs.length + 1 := by
  unfold dputT
  split
  · rw [List.length_map]; omega
  · rw [List.length_append]; show kvs.length + 1 ≤ _; omega
/-- a dict at a handle turns -/
theorem turn_dK {S : Sg} {g : Gh} {m : Sto} {H : Hp} {n : Nat} {p : Addr} {kvs : List (L2.Key × T)} {us ws : List (L2.Key × V)} (rl : Rel S g m H) (hp : g.ph[n]? = some p) (hv : H p = some (.dK us)) (l : kvs.length ≤ 16777216) (k : ws.map (·.1) = kvs.map (·.1)) (r : reps S g H (kvs.map (·.2)) (ws.map (·.2))) :
    Stp g H g (upd H p (.dK ws)) ∧ Rel S g (m.set n (.dK kvs)) (upd H p (.dK ws)) := by
  have hm : p ∈ g.ph := List.mem_of_getElem? hp
  have st := stp_cell (o := .dK ws) hm hv (fun _ z => nomatch z) (fun _ _ z => nomatch z)
  exact ⟨st, rel_cell rl hp hv (fun _ z => nomatch z) (fun _ _ z => nomatch z) ⟨ws, upd_same, l, k, reps_mono st _ _ r⟩⟩
def rSetD : V → V → V → Hp → (Hp → Prop) → Prop := fun x y v H Q => ∃ a H', x = .ref a ∧ DPut H a y v H' ∧ Q H'
/-- xs[k] = a, d[k] = a -/
theorem bs_sub {st : Stmt} {fa fo fk : Sl → Sto → Rs T} (h : PS X st (tAsg (lift (sg X tab) z W fa) (gSub (lift (sg X tab) z W fo) (lift (sg X tab) z W fk) (fun x y v H Q => rSetL x y v H Q ∨ rSetD x y v H Q)))) :
    BS X tab z W st (fun e m => (fa e m).st e fun x m1 => (fo e m1).st e fun t m2 => (fk e m2).st e fun y m3 => subS t y x e m3) := by
  refine ps_w h fun D σ H ⟨g, e, m, rl, so, p⟩ => ?_
  refine lift_st rl so p fun g1 H1 x m1 v r1 so1 s1 hv p1 => ?_
  refine lift_st r1 so1 p1 fun g2 H2 t m2 u r2 so2 s2 hu p2 => ?_
  refine lift_st r2 so2 p2 fun g3 H3 y m3 w r3 so3 s3 hw p3 => ?_
  unfold subS at p3
  split at p3
  · rename_i n
    split at p3
    · rename_i xs hn
      split at p3
      · rename_i k
        split at p3
        · rename_i j hj
          obtain rfl : w = .int k := hw
          obtain ⟨q, rfl, hq⟩ := rep_mono s3 _ _ hu
          obtain ⟨vs, h1, h2, h3⟩ := r3.cell n q _ hq hn
          refine .inl ⟨q, vs, k, j, rfl, rfl, h1, by rw [reps_len h3]; exact hj, ?_⟩
          obtain ⟨st, r'⟩ := turn_lst (ys := xs.set j x) (ws := vs.set j v) r3 hq h1 (by rw [List.length_set]; exact h2) (reps_set (rep_mono (s2.trans s3) x v hv) j h3)
          exact p3 g3 _ σ st r' (slots_mono st so3)
        · exact p3.elim
      · exact p3.elim
    · rename_i kvs hn
      split at p3
      · rename_i k hk
        split at p3
        · rename_i hl
          obtain rfl := key_rep hk hw
          obtain ⟨q, rfl, hq⟩ := rep_mono s3 _ _ hu
          obtain ⟨us, h1, h2, h3, h4⟩ := r3.cell n q _ hq hn
          obtain ⟨i1, i2⟩ := put_rel (k := k) (rep_mono (s2.trans s3) x v hv) h3 h4
          have lu : us.length = kvs.length := by have := congrArg List.length h3; simpa using this
          refine .inr ⟨q, _, rfl, DPut.k (v := v) h1 (by rw [sizeL, lu]; exact hl), ?_⟩
          have ld := dput_len kvs k x
          obtain ⟨st, r'⟩ := turn_dK (kvs := dputT kvs k x) (ws := putK us k v) r3 hq h1 (by omega) i1 i2
          exact p3 g3 _ σ st r' (slots_mono st so3)
        · exact p3.elim
      · exact p3.elim
    · exact p3.elim
  · exact p3.elim
/-- o.f = a -/
theorem putF_map : ∀ {fvs : List (Str × V)} {ks : List Str} {i : Nat} {f : Str} {v : V}, ks.Nodup → fvs.map (·.1) = ks.take fvs.length → ks[i]? = some f → i < fvs.length → (putF f v fvs).map (·.1) = ks.take (putF f v fvs).length ∧ (putF f v fvs).map (·.2) = (fvs.map (·.2)).set i v ∧ (putF f v fvs).length = fvs.length
  | [], ks, i, f, v, _, _, _, h => absurd h (Nat.not_lt_zero _)
  | (k, w) :: r, [], i, f, v, _, h, _, _ => by simp at h
  | (k, w) :: r, k' :: ks, 0, f, v, nd, h, h1, _ => by
    have e1 : k' = f := by simpa using h1
    simp only [List.map_cons, List.length_cons, List.take_succ_cons] at h
    obtain ⟨e3, h'⟩ := List.cons.inj h
    subst e1 e3
    simp [putF, h']
  | (k, w) :: r, k' :: ks, i + 1, f, v, nd, h, h1, h2 => by
    simp only [List.map_cons, List.length_cons, List.take_succ_cons] at h
    obtain ⟨e3, h'⟩ := List.cons.inj h
    have h1' : ks[i]? = some f := by simpa using h1
    have nd' := List.nodup_cons.mp nd
    obtain ⟨i1, i2, i3⟩ := putF_map (v := v) nd'.2 h' h1' (Nat.lt_of_succ_lt_succ h2)
    have ne : ¬ k = f := by
      rw [e3]
      intro q
      exact nd'.1 (by rw [q]; exact List.mem_of_getElem? h1')
    have e : putF f v ((k, w) :: r) = (k, w) :: putF f v r := by
      simp [putF, ne]
    rw [e]
    refine ⟨?_, ?_, ?_⟩
    · simp only [List.map_cons, List.length_cons, List.take_succ_cons]
      rw [i1, e3]
    · simp only [List.map_cons, List.set_cons_succ]
      rw [i2]
    · rw [List.length_cons, List.length_cons, i3]
theorem putF_end : ∀ {fvs : List (Str × V)} {ks : List Str} {f : Str} {v : V}, ks.Nodup → fvs.map (·.1) = ks.take fvs.length → ks[fvs.length]? = some f → (putF f v fvs).map (·.1) = ks.take (putF f v fvs).length ∧ (putF f v fvs).map (·.2) = fvs.map (·.2) ++ [v] ∧ (putF f v fvs).length = fvs.length + 1
  | [], [], f, v, _, _, h => by simp at h
  | [], k :: ks, f, v, _, _, h => by
    have e1 : k = f := by simpa using h
    subst e1
    simp [putF]
  | (k, w) :: r, [], f, v, _, h, _ => by simp at h
  | (k, w) :: r, k' :: ks, f, v, nd, h, h1 => by
    simp only [List.map_cons, List.length_cons, List.take_succ_cons] at h
    obtain ⟨e3, h'⟩ := List.cons.inj h
    have h1' : ks[r.length]? = some f := by simpa using h1
    have nd' := List.nodup_cons.mp nd
    obtain ⟨i1, i2, i3⟩ := putF_end (v := v) nd'.2 h' h1'
    have ne : ¬ k = f := by
      rw [e3]
      intro q
      exact nd'.1 (by rw [q]; exact List.mem_of_getElem? h1')
    have e : putF f v ((k, w) :: r) = (k, w) :: putF f v r := by
      simp [putF, ne]
    rw [e]
    refine ⟨?_, ?_, ?_⟩
    · simp only [List.map_cons, List.length_cons, List.take_succ_cons]
      rw [i1, e3]
    · simp only [List.map_cons, List.cons_append]
      rw [i2]
    · rw [List.length_cons, List.length_cons, i3]
theorem take_len {ks : List Str} {fvs : List (Str × V)} (h : fvs.map (·.1) = ks.take fvs.length) : fvs.length ≤ ks.length := by
  have l := congrArg List.length h
  rw [List.length_map, List.length_take] at l
  omega
/-- what the store of a field does -/
theorem fset_use {f : Str} {fs : List (Nat × Nat)} (ok : FldOk X tab f fs) {g2 : Gh} {m2 m3 : Sto} {H2 : Hp} {t x : T} {u v : V} (r2 : Rel (sg X tab) g2 m2 H2) (hu : rep (sg X tab) g2 H2 t u) (hv2 : rep (sg X tab) g2 H2 x v) (e3 : fsetT fs t x m2 = some m3) :
    ∃ q C dx fvs, u = .ref q ∧ H2 q = some (.ins C dx fvs) ∧ Cls X.K C ∧ NoAttr X.K C f ∧ fvs.length < 1000 ∧ Stp g2 H2 g2 (upd H2 q (.ins C dx (putF f v fvs))) ∧ Rel (sg X tab) g2 m3 (upd H2 q (.ins C dx (putF f v fvs))) := by
  unfold fsetT at e3
  split at e3
  · rename_i n
    split at e3
    · rename_i c xs hn
      split at e3
      · rename_i i ei
        obtain ⟨q, rfl, hq⟩ := hu
        obtain ⟨C, dx, fvs, nm, ks, k1, k2, k3, k4, k5⟩ := r2.cell n q _ hq hn
        obtain ⟨n', ks', q1, q2, q3, q4, q5⟩ := ok c i ei
        have k1' : tab[c]? = some (nm, ks) := k1
        rw [q1] at k1'
        obtain ⟨rfl, rfl⟩ := Prod.mk.inj (Option.some.inj k1')
        obtain ⟨cl, na⟩ := q5 C k2
        have lf := take_len k4
        have hm : q ∈ g2.ph := List.mem_of_getElem? hq
        have st := stp_cell (o := .ins C dx (putF f v fvs)) hm k3 (fun _ z => nomatch z) (fun _ _ z => nomatch z)
        have lx := reps_len k5
        rw [List.length_map] at lx
        have fin : ∀ ys, (putF f v fvs).map (·.1) = ks'.take (putF f v fvs).length → reps (sg X tab) g2 H2 ys ((putF f v fvs).map (·.2)) → Rel (sg X tab) g2 (m2.set n (.ins c ys)) (upd H2 q (.ins C dx (putF f v fvs))) := fun ys h1 h2 =>
          rel_cell r2 hq k3 (fun _ z => nomatch z) (fun _ _ z => nomatch z) ⟨C, dx, _, n', ks', k1, k2, upd_same, h1, reps_mono st _ _ h2⟩
        refine ⟨q, C, dx, fvs, rfl, k3, cl, na, by omega, st, ?_⟩
        split at e3
        · rename_i hi
          obtain rfl := Option.some.inj e3
          obtain ⟨i1, i2, i3⟩ := putF_map (v := v) q3 k4 q2 (by omega)
          exact fin _ i1 (by rw [i2]; exact reps_set hv2 i k5)
        · split at e3
          · rename_i hi
            obtain rfl := Option.some.inj e3
            have hi' : i = fvs.length := by omega
            obtain ⟨i1, i2, i3⟩ := putF_end (v := v) q3 k4 (by rw [← hi']; exact q2)
            exact fin _ i1 (by rw [i2]; exact reps_app k5 ⟨v, [], rfl, hv2, rfl⟩)
          · cases e3
      · cases e3
    · cases e3
  · cases e3
/-- o.f as a target -/
def gFld (K : PySem.W.Frag) (ta : TE) (f : Str) : TG := fun v σ H Q => ta σ H fun x H2 => ∃ a C dx fs, x = .ref a ∧ H2 a = some (.ins C dx fs) ∧ Cls K C ∧ NoAttr K C f ∧ fs.length < 1000 ∧ Q σ (upd H2 a (.ins C dx (putF f v fs)))
theorem pg_fld {o : Expr} {f : Str} {ta : TE} {pos : Pos} (ha : PE X o ta) : PG X (.Attribute o f pos) (gFld X.K ta f) := by
  refine ⟨fun pins s σ H v u Q I r h => ?_⟩
  refine PySem.W.kas_attr (thn (ha.run pins s σ H _ I h) fun ov s2 ⟨x, H2, I2, rx, a, C, dx, fs, ex, ea, c, n, l, q2⟩ => ?_)
  subst ex
  obtain rfl : ov = Value.ref a := rx
  exact setattr_ok I2 ea c n l r fun s3 I3 => ⟨σ, _, I3, q2⟩
theorem bs_fset2 {o q a : Expr} {f h : Str} {fo fq fa : Sl → Sto → Rs T} {fs gs : List (Nat × Nat)} {pos p1 p2 pt : Pos} {kt : Nat} (hc : X.calm = true) (ok : FldOk X tab f fs) (ok2 : FldOk X tab h gs)
    (hs : swapsWithSole [.Tuple [.Attribute o f p1, .Attribute q h p2] kt pt] a pos.line X.env = pure false) (hw : swappedStores [.Tuple [.Attribute o f p1, .Attribute q h p2] kt pt] a X.env = pure none) (ho : BE X tab z W o fo) (hq : BE X tab z W q fq) (ha : BE X tab z W a fa) :
    BS X tab z W (.Assign [.Tuple [.Attribute o f p1, .Attribute q h p2] kt pt] a pos) (fun e m => (fa e m).st e fun x m1 => match x with
    | .tup [u, w] => (fo e m1).st e fun t m2 => match fsetT fs t u m2 with
      | some m3 => (fq e m3).st e fun t2 m4 => match fsetT gs t2 w m4 with
        | some m5 => .nx e m5
        | none => .bad
      | none => .bad
    | _ => .bad) := by
  refine ps_w (ps_asg ha (pg_tup hc (pgs_cons (pg_fld ho) (pgs_cons (pg_fld hq) pgs_nil))) hs hw rfl) fun D σ H ⟨g, e, m, rl, so, p⟩ => ?_
  refine lift_st rl so p fun g1 H1 x m1 v r1 so1 s1 hv p1 => ?_
  split at p1
  · rename_i u w
    obtain ⟨b, vs, rfl, qb, l, rr⟩ := hv
    obtain ⟨vu, r, rfl, hu, vw, r2, rfl, hw2, rfl⟩ := rr
    refine ⟨b, _, rfl, qb, rfl, vu, _, rfl, ?_⟩
    refine lift_st r1 so1 p1 fun g2 H2 t m2 tv r2 so2 s2 ht p2 => ?_
    split at p2
    · rename_i m3 e3
      obtain ⟨q1, C, dx, fvs, rfl, k3, cl, na, lf, st, r3⟩ := fset_use ok r2 ht (rep_mono s2 _ _ hu) e3
      refine ⟨q1, C, dx, fvs, rfl, k3, cl, na, lf, vw, _, rfl, ?_⟩
      refine lift_st r3 (slots_mono st so2) (PoS.later st p2) fun g4 H4 t2 m4 tv2 r4 so4 s4 ht2 p4 => ?_
      split at p4
      · rename_i m5 e5
        obtain ⟨q2, C2, dx2, fvs2, rfl, k32, cl2, na2, lf2, st2, r5⟩ := fset_use ok2 r4 ht2 (rep_mono (s2.trans (st.trans s4)) _ _ hw2) e5
        exact ⟨q2, C2, dx2, fvs2, rfl, k32, cl2, na2, lf2, rfl, p4 g4 _ σ st2 r5 (slots_mono st2 so4)⟩
      · exact p4.elim
    · exact p2.elim
  · exact p1.elim
theorem bs_fset {o a : Expr} {f : Str} {fo fa : Sl → Sto → Rs T} {fs : List (Nat × Nat)} {pos pos' : Pos} (ok : FldOk X tab f fs) (hs : swapsWith a (some (.Attribute o f pos')) pos.line X.env = pure false) (ho : BE X tab z W o fo) (ha : BE X tab z W a fa) :
    BS X tab z W (.Assign [.Attribute o f pos'] a pos) (fun e m => (fa e m).st e fun x m1 => (fo e m1).st e fun t m2 => match fsetT fs t x m2 with
    | some m3 => .nx e m3
    | none => .bad) := by
  refine ps_w (ps_fld ho ha hs) fun D σ H ⟨g, e, m, rl, so, p⟩ => ?_
  refine lift_st rl so p fun g1 H1 x m1 v r1 so1 s1 hv p1 => ?_
  refine lift_st r1 so1 p1 fun g2 H2 t m2 u r2 so2 s2 hu p2 => ?_
  split at p2
  · rename_i m3 e3
    unfold fsetT at e3
    split at e3
    · rename_i n
      split at e3
      · rename_i c xs hn
        split at e3
        · rename_i i ei
          obtain ⟨q, rfl, hq⟩ := hu
          obtain ⟨C, dx, fvs, nm, ks, k1, k2, k3, k4, k5⟩ := r2.cell n q _ hq hn
          obtain ⟨n', ks', q1, q2, q3, q4, q5⟩ := ok c i ei
          have k1' : tab[c]? = some (nm, ks) := k1
          rw [q1] at k1'
          obtain ⟨rfl, rfl⟩ := Prod.mk.inj (Option.some.inj k1')
          obtain ⟨cl, na⟩ := q5 C k2
          have lf := take_len k4
          refine ⟨q, C, dx, fvs, rfl, k3, cl, na, by omega, ?_⟩
          have hm : q ∈ g2.ph := List.mem_of_getElem? hq
          have st := stp_cell (o := .ins C dx (putF f v fvs)) hm k3 (fun _ z => nomatch z) (fun _ _ z => nomatch z)
          have lx := reps_len k5
          rw [List.length_map] at lx
          have hv2 := rep_mono s2 x v hv
          have fin : ∀ ys, (putF f v fvs).map (·.1) = ks'.take (putF f v fvs).length → reps (sg X tab) g2 H2 ys ((putF f v fvs).map (·.2)) → PoS (sg X tab) z g2 H2 D W (.nx e (m2.set n (.ins c ys))) → D.nx σ (upd H2 q (.ins C dx (putF f v fvs))) := fun ys h1 h2 p3 => by
            refine p3 g2 _ σ st (rel_cell r2 hq k3 (fun _ z => nomatch z) (fun _ _ z => nomatch z) ?_) (slots_mono st so2)
            exact ⟨C, dx, _, n', ks', k1, k2, upd_same, h1, reps_mono st _ _ h2⟩
          split at e3
          · rename_i hi
            obtain rfl := Option.some.inj e3
            obtain ⟨i1, i2, i3⟩ := putF_map (v := v) q3 k4 q2 (by omega)
            exact fin _ i1 (by rw [i2]; exact reps_set hv2 i k5) p2
          · split at e3
            · rename_i hi
              obtain rfl := Option.some.inj e3
              have hi' : i = fvs.length := by omega
              obtain ⟨i1, i2, i3⟩ := putF_end (v := v) q3 k4 (by rw [← hi']; exact q2)
              exact fin _ i1 (by rw [i2]; exact reps_app k5 ⟨v, [], rfl, hv2, rfl⟩) p2
            · cases e3
        · cases e3
      · cases e3
    · cases e3
  · exact p2.elim
theorem bs_faug {o a : Expr} {f : Str} {fo fa : Sl → Sto → Rs T} {fs : List (Nat × Nat)} {pos tpos : Pos} (ok : FldOk X tab f fs) (ho : BE X tab z W o fo) (ha : BE X tab z W a fa) :
    BS X tab z W (.AugAssign (.Attribute o f tpos) .Add a pos) (fun e m => (fo e m).st e fun t m1 => (fldT fs t m1).st e fun x m2 => (fa e m2).st e fun y m3 => faugK fs e t (clsN m1 t) x y m3) := by
  refine ps_w (ps_fldaug ho ha in_add) fun D σ H ⟨g, e, m, rl, so, p⟩ => ?_
  refine lift_st rl so p fun g1 H1 t m1 v r1 so1 s1 hv p1 => ?_
  unfold fldT at p1
  split at p1
  · rename_i c xs ec
    split at p1
    · rename_i i ei
      split at p1
      · rename_i x et
        obtain ⟨a1, C, dx, fvs, n, ks, rfl, k1, k2, k3, k4, k5⟩ := clsOf_rep r1 ec hv
        obtain ⟨n', ks', q1, q2, q3, q4, q5⟩ := ok c i ei
        have k1' : tab[c]? = some (n, ks) := k1
        rw [q1] at k1'
        obtain ⟨rfl, rfl⟩ := Prod.mk.inj (Option.some.inj k1')
        obtain ⟨w, w1, w2⟩ := reps_get k5 et
        obtain ⟨cl, na⟩ := q5 C k2
        refine ⟨a1, C, dx, fvs, w, rfl, k3, cl, na, look_ix q3 k4 q2 w1, ?_⟩
        rw [st_ok] at p1
        refine lift_st r1 so1 p1 fun g2 H2 y m2 u r2 so2 s2 hu p2 => ?_
        unfold faugK at p2
        split at p2
        · rename_i i1 j1
          split at p2
          · rename_i hcl
            refine ⟨i1, j1, w2, hu, ?_⟩
            split at p2
            · rename_i m3 e3
              unfold fsetT at e3
              split at e3
              · rename_i n
                split at e3
                · rename_i c' ys hn
                  have ecc : c' = c := by
                    unfold clsN at hcl
                    rw [ec] at hcl
                    unfold clsOf at hcl
                    dsimp only at hcl
                    rw [hn] at hcl
                    exact Option.some.inj hcl
                  subst ecc
                  rw [ei] at e3
                  dsimp only at e3
                  obtain ⟨q, ea, hq⟩ := hv
                  cases ea
                  have hq2 := s2.at hq
                  obtain ⟨C', dx', fvs', nm, ks'', l1, l2, l3, l4, l5⟩ := r2.cell n a1 _ hq2 hn
                  have l1' : tab[c']? = some (nm, ks'') := l1
                  rw [q1] at l1'
                  obtain ⟨rfl, rfl⟩ := Prod.mk.inj (Option.some.inj l1')
                  rw [k2] at l2
                  cases l2
                  have lf := take_len l4
                  refine ⟨dx', fvs', l3, by omega, ?_⟩
                  have hm : a1 ∈ g2.ph := List.mem_of_getElem? hq2
                  have st := stp_cell (o := .ins C dx' (putF f (.int (i1 + j1)) fvs')) hm l3 (fun _ z => nomatch z) (fun _ _ z => nomatch z)
                  have lx := reps_len l5
                  rw [List.length_map] at lx
                  have fin : ∀ zs, (putF f (.int (i1 + j1)) fvs').map (·.1) = ks'.take (putF f (.int (i1 + j1)) fvs').length → reps (sg X tab) g2 H2 zs ((putF f (V.int (i1 + j1)) fvs').map (·.2)) → PoS (sg X tab) z g2 H2 D W (.nx e (m2.set n (.ins c' zs))) → D.nx σ (upd H2 a1 (.ins C dx' (putF f (.int (i1 + j1)) fvs'))) := fun zs h1 h2 p3 => by
                    refine p3 g2 _ σ st (rel_cell r2 hq2 l3 (fun _ z => nomatch z) (fun _ _ z => nomatch z) ?_) (slots_mono st so2)
                    exact ⟨C, dx', _, n', ks', l1, k2, upd_same, h1, reps_mono st _ _ h2⟩
                  split at e3
                  · rename_i hi
                    obtain rfl := Option.some.inj e3
                    obtain ⟨i1', i2, i3⟩ := putF_map (v := V.int (i1 + j1)) q3 l4 q2 (by omega)
                    exact fin _ i1' (by rw [i2]; exact reps_set (show rep (sg X tab) g2 H2 (.int (i1 + j1)) (.int (i1 + j1)) from rfl) i l5) p2
                  · split at e3
                    · rename_i hi
                      obtain rfl := Option.some.inj e3
                      have hi' : i = fvs'.length := by omega
                      obtain ⟨i1', i2, i3⟩ := putF_end (v := V.int (i1 + j1)) q3 l4 (by rw [← hi']; exact q2)
                      exact fin _ i1' (by rw [i2]; exact reps_app l5 ⟨.int (i1 + j1), [], rfl, rfl, rfl⟩) p2
                    · cases e3
                · cases e3
              · cases e3
            · exact p2.elim
          · exact p2.elim
        · exact p2.elim
      · exact p1.elim
    · exact p1.elim
  · exact p1.elim
end
end BV
/-! methods of lists and dicts that tell a value, displays of dicts, lists turned about -/
namespace BV
open PySem PySem.Spec L2
section
variable {X : Cx} {tab : List (Str × List Str)} {z : Option Xz} {W : WX}
theorem set_dic (hu : X.A.units + 1 < cLine) : PSet X rSetD := by
  intro pins s σ H o i v ov iv u Q I ro ri rv ⟨a, H', eo, g, q⟩
  subst eo
  obtain rfl : ov = Value.ref a := ro
  exact d_setItem hu I g ri rv fun s' J => ⟨H', J, q⟩
theorem set_or {r r' : V → V → V → Hp → (Hp → Prop) → Prop} (h : PSet X r) (h' : PSet X r') : PSet X (fun x y v H Q => r x y v H Q ∨ r' x y v H Q) := by
  intro pins s σ H o i v ov iv u Q I ro ri rv q
  rcases q with q | q
  · exact h pins s σ H o i v ov iv u Q I ro ri rv q
  · exact h' pins s σ H o i v ov iv u Q I ro ri rv q
/-! ### the methods' rules -/
def bmN : BM → String
  | .lpop0 => "pop" | .lpop => "pop" | .lins => "insert" | .lrev => "reverse" | .lidx => "index" | .lcnt => "count"
  | .dget1 => "get" | .dget2 => "get" | .dpop1 => "pop" | .dpop2 => "pop" | .upper => "upper" | .repl => "replace"
def bmTn : BM → String
  | .dget1 => "dict" | .dget2 => "dict" | .dpop1 => "dict" | .dpop2 => "dict" | .upper => "str" | .repl => "str"
  | _ => "list"
def bmId (k : BM) : String := match k with
  | .lpop0 => "list.pop" | .lpop => "list.pop" | .lins => "list.insert" | .lrev => "list.reverse" | .lidx => "list.index" | .lcnt => "list.count"
  | .dget1 => "dict.get" | .dget2 => "dict.get" | .dpop1 => "dict.pop" | .dpop2 => "dict.pop" | .upper => "str.upper" | .repl => "str.replace"
/-- xs.count(y), flat items -/
def rCount (K : PySem.W.Frag) : V → List V → Hp → VK → Prop := fun x xs H Q => ∃ (a : Addr) (ys : List V) (y : V), x = V.ref a ∧ xs = [y] ∧ SqL K H a ys ∧ flatV y = true ∧ ys.all flatV = true ∧ Q (.int (ys.countP (eqV · y) : Nat)) H
theorem eqU_count {y : V} {uy : Value} : ∀ {ys : List V} {us : List Value}, Vals ys us → ys.all flatV = true → us.countP (eqU y) = ys.countP (eqV · y)
  | [], _, .nil, _ => rfl
  | z :: ys, _, .cons r rr, f => by
    rw [List.all_cons, Bool.and_eq_true] at f
    rw [List.countP_cons, List.countP_cons, eqU_count (uy := uy) rr f.2, eqU_of r f.1]
theorem mt_count : MtR X "list.count" (rCount X.K) := by
  intro pins s σ H x xs v us Q I rx rxs h
  obtain ⟨a, ys, y, rfl, rfl, hs, fy, fys, q⟩ := h
  obtain rfl : v = Value.ref a := rx
  obtain ⟨uy, rfl, ry⟩ := rxs.one
  obtain ⟨its, rv, ⟨⟨cls, dd, data, sl⟩, n, ho, hc, hdn, hd⟩, hlen⟩ := I.list hs
  dsimp only at hc hd
  subst hc hd
  refine call_meets PySem.F.slot_list_count ⟨_, ho, rfl⟩ PySem.F.entry_list_count (PySem.F.args_list_count_2 _ _)
    (SeqAt.list_countAt a its.toArray n dd sl uy (eqU y)) ⟨ho, fun u' hu' => mem_eqAt ry fy rv fys u' (by simpa using hu'), ?_⟩
  have ec : its.toArray.toList.countP (eqU y) = ys.countP (eqV · y) := eqU_count (uy := uy) rv fys
  rw [ec]
  exact ⟨.int (ys.countP (eqV · y) : Nat), H, I.tok _, ⟨_, rfl⟩, q⟩
theorem countP_rep {S : Sg} {g : Gh} {H : Hp} {y : T} {w : V} (fy : flatT y = true) (hw : rep S g H y w) : ∀ {xs : List T} {ws : List V}, xs.all flatT = true → reps S g H xs ws → ws.countP (eqV · w) = xs.countP (eqF · y)
  | [], _, _, h => by
    have e : _ = [] := h
    subst e
    rfl
  | x :: xs, _, f, h => by
    obtain ⟨v, r, e, h1, h2⟩ := h
    subst e
    rw [List.all_cons, Bool.and_eq_true] at f
    rw [List.countP_cons, List.countP_cons, countP_rep fy hw f.2 h2, eqF_rep fy f.1 hw h1]
def rDGet1 : V → List V → Hp → VK → Prop := fun x xs H Q => ∃ a y o, x = .ref a ∧ xs = [y] ∧ DGet H a y o ∧ Q (o.getD .non) H
theorem mt_dget1 (hu : X.A.units + 1 < cLine) : MtR X "dict.get" rDGet1 := by
  intro pins s σ H x xs v us Q I rx rs ⟨a, y, o, ex, exs, g, q⟩
  subst ex exs
  obtain rfl : v = Value.ref a := rx
  obtain ⟨u, rfl, ru⟩ := rs.one
  exact d_get1 hu I g ru fun w' s' J rw' => ⟨_, H, J, rw', q⟩
def rDGet2 : V → List V → Hp → VK → Prop := fun x xs H Q => ∃ a y d o, x = .ref a ∧ xs = [y, d] ∧ DGet H a y o ∧ Q (o.getD d) H
theorem mt_dget2 (hu : X.A.units + 1 < cLine) : MtR X "dict.get" rDGet2 := by
  intro pins s σ H x xs v us Q I rx rs ⟨a, y, d, o, ex, exs, g, q⟩
  subst ex exs
  obtain rfl : v = Value.ref a := rx
  obtain ⟨u, r, rfl, ru, rr⟩ := rs.two
  exact d_get2 hu I g ru rr fun w' s' J rw' => ⟨_, H, J, rw', q⟩
def rDPop1 : V → List V → Hp → VK → Prop := fun x xs H Q => ∃ a kvs k w, x = .ref a ∧ xs = [kV k] ∧ H a = some (.dK kvs) ∧ valV kvs k = some w ∧ Q w (upd H a (.dK (dropK kvs k)))
theorem mt_dpop1 : MtR X "dict.pop" rDPop1 := by
  intro pins s σ H x xs v us Q I rx rs ⟨a, kvs, k, w, ex, exs, e, l, q⟩
  subst ex exs
  obtain rfl : v = Value.ref a := rx
  obtain ⟨u, rfl, ru⟩ := rs.one
  exact d_pop I e ru l (.inl rfl) fun w' s' J rw' => ⟨_, _, J, rw', q⟩
def rDPop2 : V → List V → Hp → VK → Prop := fun x xs H Q => ∃ a kvs k d, x = .ref a ∧ xs = [kV k, d] ∧ H a = some (.dK kvs) ∧ ((∃ w, valV kvs k = some w ∧ Q w (upd H a (.dK (dropK kvs k)))) ∨ (valV kvs k = none ∧ Q d H))
theorem mt_dpop2 : MtR X "dict.pop" rDPop2 := by
  intro pins s σ H x xs v us Q I rx rs ⟨a, kvs, k, d, ex, exs, e, h⟩
  subst ex exs
  obtain rfl : v = Value.ref a := rx
  obtain ⟨u, r, rfl, ru, rr⟩ := rs.two
  rcases h with ⟨w, l, q⟩ | ⟨l, q⟩
  · exact d_pop I e ru l (.inr ⟨r, rfl⟩) fun w' s' J rw' => ⟨_, _, J, rw', q⟩
  · exact d_popD I e ru l fun s' J => ⟨_, H, J, rr, q⟩
theorem drop_rel {S : Sg} {g : Gh} {H : Hp} {k : L2.Key} : ∀ {kvs : List (L2.Key × T)} {us : List (L2.Key × V)}, us.map (·.1) = kvs.map (·.1) → reps S g H (kvs.map (·.2)) (us.map (·.2)) →
    (dropK us k).map (·.1) = (ddropT kvs k).map (·.1) ∧ reps S g H ((ddropT kvs k).map (·.2)) ((dropK us k).map (·.2)) := by
  intro kvs
  induction kvs with
  | nil =>
    intro us h r
    cases us with
    | nil => exact ⟨rfl, rfl⟩
    | cons _ _ => cases h
  | cons p kvs ih =>
    intro us h r
    cases us with
    | nil => cases h
    | cons q us =>
      obtain ⟨e1, e2⟩ := List.cons.inj h
      obtain ⟨w, l, e3, r1, r2⟩ := r
      obtain ⟨e4, e5⟩ := List.cons.inj e3
      subst e5
      have e4 : q.2 = w := e4
      subst e4
      obtain ⟨i1, i2⟩ := ih e2 r2
      have e1 : q.1 = p.1 := e1
      unfold dropK ddropT at *
      by_cases c : p.1 = k
      · have c2 : q.1 = k := by rw [e1]; exact c
        rw [List.filter_cons_of_neg (by simpa using c2), List.filter_cons_of_neg (by simpa using c)]
        exact ⟨i1, i2⟩
      · have c2 : ¬ q.1 = k := by rw [e1]; exact c
        rw [List.filter_cons_of_pos (by simpa using c2), List.filter_cons_of_pos (by simpa using c)]
        exact ⟨by rw [List.map_cons, List.map_cons, i1, e1], _, _, rfl, r1, i2⟩
theorem ddrop_len (kvs : List (L2.Key × T)) (k : L2.Key) : (ddropT kvs k).length ≤ kvs.length := List.length_filter_le _ _
theorem reps_rev {S : Sg} {g : Gh} {H : Hp} : ∀ {xs : List T} {vs : List V}, reps S g H xs vs → reps S g H xs.reverse vs.reverse
  | [], _, h => by
    have e : _ = [] := h
    rw [e]; exact rfl
  | x :: xs, _, h => by
    obtain ⟨v, r, rfl, h1, h2⟩ := h
    rw [List.reverse_cons, List.reverse_cons]
    exact reps_app (reps_rev h2) ⟨v, [], rfl, h1, rfl⟩
theorem reps_erase {S : Sg} {g : Gh} {H : Hp} : ∀ {xs : List T} {vs : List V} (n : Nat), reps S g H xs vs → reps S g H (xs.eraseIdx n) (vs.eraseIdx n)
  | [], _, n, h => by
    have e : _ = [] := h
    rw [e]; exact rfl
  | x :: xs, _, 0, h => by
    obtain ⟨v, r, rfl, h1, h2⟩ := h
    exact h2
  | x :: xs, _, n + 1, h => by
    obtain ⟨v, r, rfl, h1, h2⟩ := h
    exact ⟨v, _, rfl, h1, reps_erase n h2⟩
theorem reps_dropLast {S : Sg} {g : Gh} {H : Hp} {xs : List T} {vs : List V} (h : reps S g H xs vs) : reps S g H xs.dropLast vs.dropLast := by
  rw [List.dropLast_eq_take, List.dropLast_eq_take, reps_len h]
  exact reps_take _ h
theorem idxF_spec {x : T} : ∀ {xs : List T} {k j : Nat}, idxF x xs k = some j → k ≤ j ∧ ∃ y, xs[j - k]? = some y ∧ eqF y x = true ∧ ∀ (i : Nat) y', i < j - k → xs[i]? = some y' → eqF y' x = false
  | [], _, _, h => nomatch h
  | y :: r, k, j, h => by
    unfold idxF at h
    split at h
    · rename_i c
      obtain rfl := Option.some.inj h
      exact ⟨Nat.le_refl _, y, by rw [Nat.sub_self]; rfl, c, fun i y' hi => by omega⟩
    · rename_i c
      obtain ⟨h1, y2, h2, h3, h4⟩ := idxF_spec h
      refine ⟨by omega, y2, ?_, h3, fun i y' hi hy => ?_⟩
      · have e : j - k = (j - (k + 1)) + 1 := by omega
        rw [e]
        exact h2
      · cases i with
        | zero =>
          obtain rfl : y = y' := by simpa using hy
          simpa using c
        | succ i => exact h4 i y' (by omega) (by simpa using hy)
theorem reps_at {S : Sg} {g : Gh} {H : Hp} {xs : List T} {vs : List V} {i : Nat} {v : V} (h : reps S g H xs vs) (e : vs[i]? = some v) : ∃ x, xs[i]? = some x ∧ rep S g H x v := by
  have hl := (List.getElem?_eq_some_iff.mp e).1
  rw [reps_len h] at hl
  obtain ⟨w, h1, h2⟩ := reps_get h (List.getElem?_eq_getElem hl)
  rw [e] at h1
  obtain rfl := Option.some.inj h1
  exact ⟨_, List.getElem?_eq_getElem hl, h2⟩
theorem rcv_lst {S : Sg} {g : Gh} {m : Sto} {H : Hp} {n : Nat} {v : V} {xs : List T} (rl : Rel S g m H) (hv : rep S g H (.hd n) v) (hn : m[n]? = some (.lst xs)) : ∃ p vs, v = .ref p ∧ g.ph[n]? = some p ∧ H p = some (.lst vs) ∧ xs.length ≤ 16777216 ∧ reps S g H xs vs := by
  obtain ⟨p, rfl, hp⟩ := hv
  obtain ⟨vs, h1, h2, h3⟩ := rl.cell n p _ hp hn
  exact ⟨p, vs, rfl, hp, h1, h2, h3⟩
theorem bm_ok {X : Cx} (S : Sg) (e : S.K = X.K) (hu : X.A.units + 1 < cLine) (k : BM) (hk : k ≠ .repl) : ∃ r, MtR X (bmId k) r ∧
    ∀ (g : Gh) (m : Sto) (H : Hp) (x : T) (v : V) (xs : List T) (vs : List V) (Q : VK) (W : Value → Option Addr → Hp → Prop), Rel S g m H → rep S g H x v → reps S g H xs vs → PoT S g H Q W (bmT k x xs m) → r v vs H Q := by
  cases k
  case repl => exact absurd rfl hk
  case lpop0 =>
    refine ⟨rPop, mt_pop, fun g m H x v xs vs Q W rl hx h p => ?_⟩
    unfold bmT at p
    split at p <;> first | exact p.elim | (rename_i q; cases q; done) | skip
    split at p
    · split at p
      · rename_i n xs hn
        split at p
        · rename_i y hy
          obtain ⟨a, ws, rfl, hp, h1, h2, h3⟩ := rcv_lst rl hx hn
          obtain rfl : vs = [] := h
          obtain ⟨w, w1, w2⟩ := reps_get h3 hy
          refine ⟨a, ws, w, rfl, rfl, h1, by rw [reps_len h3]; exact w1, ?_⟩
          obtain ⟨st, r'⟩ := turn_lst (ys := xs.dropLast) (ws := ws.dropLast) rl hp h1 (by rw [List.length_dropLast]; omega) (reps_dropLast h3)
          exact p g _ st r' w (rep_mono st _ _ w2)
        · exact p.elim
      · exact p.elim
    · exact p.elim
  case lpop =>
    refine ⟨rPopAt, mt_popAt, fun g m H x v xs vs Q W rl hx h p => ?_⟩
    unfold bmT at p
    split at p <;> first | exact p.elim | (rename_i q; cases q; done) | skip
    rename_i i _
    split at p
    · split at p
      · rename_i n xs hn
        split at p
        · rename_i c
          split at p
          · rename_i j hj
            split at p
            · rename_i y hy
              obtain ⟨a, ws, rfl, hp, h1, h2, h3⟩ := rcv_lst rl hx hn
              obtain ⟨u, rfl, hu'⟩ := reps1 h
              obtain rfl : u = .int i := hu'
              obtain ⟨w, w1, w2⟩ := reps_get h3 hy
              refine ⟨a, ws, i, j, w, rfl, rfl, h1, c.1, c.2, by rw [reps_len h3]; exact (ixN_seq hj).1, w1, ?_⟩
              obtain ⟨st, r'⟩ := turn_lst (ys := xs.eraseIdx j) (ws := ws.eraseIdx j) rl hp h1 (Nat.le_trans (List.length_eraseIdx_le ..) h2) (reps_erase j h3)
              exact p g _ st r' w (rep_mono st _ _ w2)
            · exact p.elim
          · exact p.elim
        · exact p.elim
      · exact p.elim
    · exact p.elim
  case lins =>
    refine ⟨_, mt_insert, fun g m H x v xs vs Q W rl hx h p => ?_⟩
    unfold bmT at p
    split at p <;> first | exact p.elim | (rename_i q; cases q; done) | skip
    rename_i i y _
    split at p
    · split at p
      · rename_i n xs hn
        split at p
        · rename_i c
          obtain ⟨a, ws, rfl, hp, h1, h2, h3⟩ := rcv_lst rl hx hn
          obtain ⟨u, w, rfl, hu', hw⟩ := reps2 h
          obtain rfl : u = .int i := hu'
          refine ⟨a, ws, i, w, rfl, rfl, h1, by rw [sizeL, reps_len h3]; exact c.1, c.2.1, c.2.2, ?_⟩
          obtain ⟨st, r'⟩ := turn_lst (ys := xs.take i.toNat ++ [y] ++ xs.drop i.toNat) (ws := ws.take i.toNat ++ [w] ++ ws.drop i.toNat) rl hp h1 (by
            rw [List.length_append, List.length_append, List.length_take, List.length_drop]
            show min _ _ + 1 + _ ≤ _
            omega) (reps_app (reps_app (reps_take _ h3) ⟨w, [], rfl, hw, rfl⟩) (reps_drop _ h3))
          exact p g _ st r' .non rfl
        · exact p.elim
      · exact p.elim
    · exact p.elim
  case lrev =>
    refine ⟨rReverse, mt_reverse, fun g m H x v xs vs Q W rl hx h p => ?_⟩
    unfold bmT at p
    split at p <;> first | exact p.elim | (rename_i q; cases q; done) | skip
    split at p
    · split at p
      · rename_i n xs hn
        obtain ⟨a, ws, rfl, hp, h1, h2, h3⟩ := rcv_lst rl hx hn
        obtain rfl : vs = [] := h
        refine ⟨a, ws, rfl, rfl, h1, ?_⟩
        obtain ⟨st, r'⟩ := turn_lst (ys := xs.reverse) (ws := ws.reverse) rl hp h1 (by rw [List.length_reverse]; omega) (reps_rev h3)
        exact p g _ st r' .non rfl
      · exact p.elim
    · exact p.elim
  case lidx =>
    refine ⟨rIndex X.K, mt_index, fun g m H x v xs vs Q W rl hx h p => ?_⟩
    unfold bmT at p
    split at p <;> first | exact p.elim | (rename_i q; cases q; done) | skip
    rename_i y
    split at p
    · rename_i xs e1
      split at p
      · rename_i c
        rw [Bool.and_eq_true] at c
        split at p
        · rename_i j hj
          obtain ⟨a, ws, rfl, k, r, l⟩ := lstOf_rep rl e1 hx
          obtain ⟨w, rfl, hw⟩ := reps1 h
          obtain ⟨_, y2, i1, i2, i3⟩ := idxF_spec hj
          rw [Nat.sub_zero] at i1 i3
          obtain ⟨w2, w3, w4⟩ := reps_get r i1
          have f2 : flatT y2 = true := List.all_eq_true.mp c.2 _ (List.mem_of_getElem? i1)
          refine ⟨a, ws, w, j, w2, rfl, rfl, SqL.of k, flat_rep c.1 hw, flats_rep c.2 r, w3, ?_, fun m' z' hm hz => ?_, PoT.now rl p rfl⟩
          · rw [eqF_rep c.1 f2 hw w4]; exact i2
          · obtain ⟨y3, q1, q2⟩ := reps_at r hz
            rw [eqF_rep c.1 (List.all_eq_true.mp c.2 _ (List.mem_of_getElem? q1)) hw q2]
            exact i3 m' y3 hm q1
        · exact p.elim
      · exact p.elim
    · exact p.elim
  case lcnt =>
    refine ⟨rCount X.K, mt_count, fun g m H x v xs vs Q W rl hx h p => ?_⟩
    unfold bmT at p
    split at p <;> first | exact p.elim | (rename_i q; cases q; done) | skip
    rename_i y
    split at p
    · rename_i xs e1
      split at p
      · rename_i c
        rw [Bool.and_eq_true] at c
        obtain ⟨a, ws, rfl, k, r, l⟩ := lstOf_rep rl e1 hx
        obtain ⟨w, rfl, hw⟩ := reps1 h
        refine ⟨a, ws, w, rfl, rfl, SqL.of k, flat_rep c.1 hw, flats_rep c.2 r, ?_⟩
        rw [countP_rep c.1 hw c.2 r]
        exact PoT.now rl p rfl
      · exact p.elim
    · exact p.elim
  case dget1 =>
    refine ⟨rDGet1, mt_dget1 hu, fun g m H x v xs vs Q W rl hx h p => ?_⟩
    unfold bmT at p
    split at p <;> first | exact p.elim | (rename_i q; cases q; done) | skip
    rename_i y
    split at p
    · rename_i kvs k ed ek
      obtain ⟨n, a, us, rfl, hp, hn, rfl, h1, h2, h3, h4⟩ := dicOf_rep rl ed hx
      obtain ⟨w, rfl, hw⟩ := reps1 h
      obtain rfl := key_rep ek hw
      refine ⟨a, _, _, rfl, rfl, DGet.k h1, ?_⟩
      rcases dget_rel (k := k) h3 h4 with ⟨i1, i2⟩ | ⟨t', w, i1, i2, i3⟩
      · rw [i1] at p
        rw [i2]
        exact PoT.now rl p rfl
      · rw [i1] at p
        rw [i2]
        exact PoT.now rl p i3
    · exact p.elim
  case dget2 =>
    refine ⟨rDGet2, mt_dget2 hu, fun g m H x v xs vs Q W rl hx h p => ?_⟩
    unfold bmT at p
    split at p <;> first | exact p.elim | (rename_i q; cases q; done) | skip
    rename_i y d
    split at p
    · rename_i kvs k ed ek
      obtain ⟨n, a, us, rfl, hp, hn, rfl, h1, h2, h3, h4⟩ := dicOf_rep rl ed hx
      obtain ⟨w, wd, rfl, hw, hd⟩ := reps2 h
      obtain rfl := key_rep ek hw
      refine ⟨a, _, wd, _, rfl, rfl, DGet.k h1, ?_⟩
      rcases dget_rel (k := k) h3 h4 with ⟨i1, i2⟩ | ⟨t', w, i1, i2, i3⟩
      · rw [i1] at p
        rw [i2]
        exact PoT.now rl p hd
      · rw [i1] at p
        rw [i2]
        exact PoT.now rl p i3
    · exact p.elim
  case dpop1 =>
    refine ⟨rDPop1, mt_dpop1, fun g m H x v xs vs Q W rl hx h p => ?_⟩
    unfold bmT at p
    split at p <;> first | exact p.elim | (rename_i q; cases q; done) | skip
    rename_i y
    split at p
    · split at p
      · rename_i n _ kvs hn
        split at p
        · rename_i k hk
          split at p
          · rename_i t ht
            obtain ⟨a, rfl, hp⟩ := hx
            obtain ⟨us, h1, h2, h3, h4⟩ := rl.cell n a _ hp hn
            obtain ⟨w, rfl, hw⟩ := reps1 h
            obtain rfl := key_rep hk hw
            rcases dget_rel (k := k) h3 h4 with ⟨i1, i2⟩ | ⟨t', w', i1, i2, i3⟩
            · rw [i1] at ht; cases ht
            · rw [i1] at ht
              obtain rfl := Option.some.inj ht
              refine ⟨a, us, k, w', rfl, rfl, h1, i2, ?_⟩
              obtain ⟨j1, j2⟩ := drop_rel (k := k) h3 h4
              obtain ⟨st, r'⟩ := turn_dK (kvs := ddropT kvs k) (ws := dropK us k) rl hp h1 (Nat.le_trans (ddrop_len _ _) h2) j1 j2
              exact p g _ st r' _ (rep_mono st _ _ i3)
          · exact p.elim
        · exact p.elim
      · exact p.elim
    · exact p.elim
  case dpop2 =>
    refine ⟨rDPop2, mt_dpop2, fun g m H x v xs vs Q W rl hx h p => ?_⟩
    unfold bmT at p
    split at p <;> first | exact p.elim | (rename_i q; cases q; done) | skip
    rename_i y d
    split at p
    · split at p
      · rename_i n _ kvs hn
        split at p
        · rename_i k hk
          obtain ⟨a, rfl, hp⟩ := hx
          obtain ⟨us, h1, h2, h3, h4⟩ := rl.cell n a _ hp hn
          obtain ⟨w, wd, rfl, hw, hd⟩ := reps2 h
          obtain rfl := key_rep hk hw
          refine ⟨a, us, k, wd, rfl, rfl, h1, ?_⟩
          rcases dget_rel (k := k) h3 h4 with ⟨i1, i2⟩ | ⟨t', w', i1, i2, i3⟩
          · rw [i1] at p
            exact .inr ⟨i2, PoT.now rl p hd⟩
          · rw [i1] at p
            refine .inl ⟨w', i2, ?_⟩
            obtain ⟨j1, j2⟩ := drop_rel (k := k) h3 h4
            obtain ⟨st, r'⟩ := turn_dK (kvs := ddropT kvs k) (ws := dropK us k) rl hp h1 (Nat.le_trans (ddrop_len _ _) h2) j1 j2
            exact p g _ st r' _ (rep_mono st _ _ i3)
        · exact p.elim
      · exact p.elim
    · exact p.elim
  case upper =>
    refine ⟨_, mt_upper, fun g m H x v xs vs Q W rl hx h p => ?_⟩
    unfold bmT at p
    split at p <;> first | exact p.elim | (rename_i q; cases q; done) | skip
    split at p
    · rename_i a
      split at p
      · rename_i c
        obtain ⟨rfl, l⟩ := hx
        obtain rfl : vs = [] := h
        exact ⟨a, rfl, rfl, c.1, PoT.now rl p ⟨rfl, c.2⟩⟩
      · exact p.elim
    · exact p.elim
/-! ### their calls -/
/-- o.m(..), the kind of o told by what stands there -/
def tBML (X : Cx) (nm : Str) (to : TE) (ta : TA) : TE := fun σ H Q => to σ H fun x H1 => ∃ kd id r, PlainAttrs kd ∧ Slot kd nm id ∧ typeOf (.builtin id) = pure (.type "method_descriptor") ∧ MtR X id r ∧ tyV X.K kd x H1 ∧ ta σ H1 fun xs H2 => r x xs H2 Q
theorem pe_bmL0 {o : Expr} {nm : Str} {to : TE} {ap cp : Pos} (ho : PE X o to) (hb : attributeBase o nm X.env (eval o X.env) = eval o X.env) (hl : (ap.endLine == cp.line) = true) :
    PE X (.Call (.Attribute o nm ap) [] [] cp) (tBML X nm to (fun _ H Q => Q [] H)) := by
  refine ⟨fun pins s σ H Q I h => wpAny_Call_method0_late hb hl (thn (ho.run pins s σ H _ I h) fun v s1 hv => ?_)⟩
  obtain ⟨x, H1, I1, r1, kd, id, r, pa, sl, hty, hm, ty, q1⟩ := hv
  have k := tyV_is I1 r1 ty
  exact ⟨kd, id, pa, sl, hty, k.1, k.2, Calls.callWith_builtin rfl (PySem.evalArgs_none (hm pins s1 σ H1 x [] v [] Q I1 r1 .nil q1))⟩
theorem pe_bmL {o a : Expr} {es : List Expr} {nm : Str} {to : TE} {ta : TA} {ap cp : Pos} (ho : PE X o to) (ha : PA X (a :: es) ta) (hb : attributeBase o nm X.env (eval o X.env) = eval o X.env)
    (hf : ((backTo cp (starEach (a :: es) X.env)).all (fun x => !x.1) && (backToKw cp (keywordEach [] X.env)).all (fun x => x.1.isSome)
      && decide ((a :: es).length + ([] : List Keyword).length + (if ([] : List Keyword).isEmpty then 0 else 1) < 30)) = true)
    (hl : (ap.endLine == cp.line) = true) (hs : starEach (a :: es) X.env = (false, eval a X.env) :: starEach es X.env) (hp : (backTo cp (starEach es X.env)).any (·.1) = false) :
    PE X (.Call (.Attribute o nm ap) (a :: es) [] cp) (tBML X nm to ta) := by
  refine ⟨fun pins s σ H Q I h => wpAny_Call_method_late hb hf hl rfl (thn (ho.run pins s σ H _ I h) fun v s1 hv => ?_)⟩
  obtain ⟨x, H1, I1, r1, kd, id, r, pa, sl, hty, hm, ty, q1⟩ := hv
  have k := tyV_is I1 r1 ty
  refine ⟨kd, id, pa, sl, hty, k.1, k.2, ?_⟩
  have w := ha.run cp pins s1 σ H1 _ I1 q1
  rw [hs] at w ⊢
  have w2 : (backTo cp ((false, eval a X.env) :: starEach es X.env)).any (·.1) = false := by show (false || (backTo cp (starEach es X.env)).any (·.1)) = false; rw [hp]; rfl
  exact Calls.callWith_builtin w2 (Calls.evalArgs_plain (thn w fun us s2 ⟨vs, H2, I2, r2, q2⟩ => hm pins s2 σ H2 x vs v us Q I2 r1 r2 q2))
theorem bm_tyV {S : Sg} {g : Gh} {m : Sto} {H : Hp} {x : T} {v : V} {k : BM} (rl : Rel S g m H) (e : bmTy k x m = true) (h : rep S g H x v) : tyV S.K (bmTn k) v H := by
  have ls : (lstOf m x).isSome = true → tyV S.K "list" v H := fun e => by
    obtain ⟨xs, e⟩ := Option.isSome_iff_exists.mp e
    obtain ⟨a, vs, rfl, k, r, l⟩ := lstOf_rep rl e h
    exact .inl ⟨rfl, vs, SqL.of k⟩
  have ds : (dicOf m x).isSome = true → tyV S.K "dict" v H := fun e => by
    obtain ⟨kvs, e⟩ := Option.isSome_iff_exists.mp e
    obtain ⟨n, a, us, rfl, hp, hn, rfl, h1, _⟩ := dicOf_rep rl e h
    exact .inr (.inr (.inl ⟨rfl, .inl ⟨us, h1⟩⟩))
  cases k <;> first | exact ls e | exact ds e | (cases x <;> first | (obtain ⟨rfl, _⟩ := h; rfl) | cases e)
theorem bm_plain (k : BM) : PlainAttrs (bmTn k) := by
  cases k <;> first | exact PySem.F.plainAttrs_list | exact PySem.F.plainAttrs_dict | exact PySem.F.plainAttrs_str
theorem bm_slot (k : BM) : Slot (bmTn k) (Str.ofString (bmN k)) (bmId k) := by
  cases k <;> first | exact PySem.F.slot_list_pop | exact PySem.F.slot_list_insert | exact PySem.F.slot_list_reverse | exact PySem.F.slot_list_index | exact PySem.F.slot_list_count | exact PySem.F.slot_dict_get | exact PySem.F.slot_dict_pop | exact PySem.F.slot_str_upper | exact PySem.F.slot_str_replace
theorem bm_type (k : BM) : typeOf (.builtin (bmId k)) = pure (.type "method_descriptor") := by
  cases k <;> (show builtinType _ = _; rw [builtinType_eq_fast]; kernel_rfl)
def bmD (ks : List BM) (fo : Sl → Sto → Rs T) (fl : Sl → Sto → Rs (List T)) : Sl → Sto → Rs T := fun e m => (fo e m).bind fun x m1 => match ks.find? fun k => bmTy k x m1 with
    | some k => (fl e m1).bind fun ts m2 => bmT k x ts m2
    | none => .bad
def bmOks (nm : Str) (ks : List BM) : Bool := ks.all fun k => decide (nm = Str.ofString (bmN k)) && (match k with | .repl => false | _ => true)
theorem bmOks_ok {nm : Str} {ks : List BM} (h : bmOks nm ks = true) {k : BM} (hk : k ∈ ks) : nm = Str.ofString (bmN k) ∧ k ≠ .repl := by
  have q := List.all_eq_true.mp h k hk
  rw [Bool.and_eq_true, decide_eq_true_eq] at q
  refine ⟨q.1, ?_⟩; (rintro rfl; exact absurd q.2 (by simp))
theorem be_bm0 {o : Expr} {nm : Str} {ks : List BM} {fo : Sl → Sto → Rs T} {ap cp : Pos} (hu : X.A.units + 1 < cLine) (hk : bmOks nm ks = true) (ho : BE X tab z W o fo) (hb : attributeBase o nm X.env (eval o X.env) = eval o X.env) (hl : (ap.endLine == cp.line) = true) :
    BE X tab z W (.Call (.Attribute o nm ap) [] [] cp) (bmD ks fo (fun _ m => .ok [] m)) := by
  refine pe_w (pe_bmL0 ho hb hl) fun σ H Q ⟨g, e, m, rl, so, p⟩ => ?_
  refine lift_go rl so p fun g1 H1 x m1 v r1 so1 s1 hv p1 => ?_
  split at p1
  · rename_i k hf
    obtain ⟨en, h1⟩ := bmOks_ok hk (List.mem_of_find?_eq_some hf)
    obtain ⟨r, hm, hr⟩ := bm_ok (X := X) (sg X tab) rfl hu k h1
    exact ⟨bmTn k, bmId k, r, bm_plain k, by rw [en]; exact bm_slot k, bm_type k, hm, bm_tyV r1 (by simpa using List.find?_some hf) hv, hr g1 m1 H1 x v [] [] Q _ r1 hv rfl p1⟩
  · exact p1.elim
theorem be_bm {o a : Expr} {es : List Expr} {nm : Str} {ks : List BM} {fo : Sl → Sto → Rs T} {fl : Sl → Sto → Rs (List T)} {ap cp : Pos} (hu : X.A.units + 1 < cLine) (hk : bmOks nm ks = true) (ho : BE X tab z W o fo) (ha : BA X tab z W (a :: es) fl) (hb : attributeBase o nm X.env (eval o X.env) = eval o X.env)
    (hf : ((backTo cp (starEach (a :: es) X.env)).all (fun x => !x.1) && (backToKw cp (keywordEach [] X.env)).all (fun x => x.1.isSome)
      && decide ((a :: es).length + ([] : List Keyword).length + (if ([] : List Keyword).isEmpty then 0 else 1) < 30)) = true)
    (hl : (ap.endLine == cp.line) = true) (hs : starEach (a :: es) X.env = (false, eval a X.env) :: starEach es X.env) (hp : (backTo cp (starEach es X.env)).any (·.1) = false) :
    BE X tab z W (.Call (.Attribute o nm ap) (a :: es) [] cp) (bmD ks fo fl) := by
  refine pe_w (pe_bmL ho ha hb hf hl hs hp) fun σ H Q ⟨g, e, m, rl, so, p⟩ => ?_
  refine lift_go rl so p fun g1 H1 x m1 v r1 so1 s1 hv p1 => ?_
  split at p1
  · rename_i k hf
    obtain ⟨en, h1⟩ := bmOks_ok hk (List.mem_of_find?_eq_some hf)
    obtain ⟨r, hm, hr⟩ := bm_ok (X := X) (sg X tab) rfl hu k h1
    refine ⟨bmTn k, bmId k, r, bm_plain k, by rw [en]; exact bm_slot k, bm_type k, hm, bm_tyV r1 (by simpa using List.find?_some hf) hv, ?_⟩
    refine liftA_eq r1 so1 p1 fun g2 H2 ts m2 us eq r2 so2 s2 hu p2 => ?_
    exact hr g2 m2 H2 x v ts us Q _ r2 (rep_mono s2 x v hv) hu p2
  · exact p1.elim
/-! ### a list turned about -/
theorem be_rev {a : Expr} {fa : Sl → Sto → Rs T} {k : Nat} {p1 p2 p3 pos : Pos} (h : BE X tab z W a fa) :
    BE X tab z W (.Subscript a (.Slice none none (some (.UnaryOp .USub (.Constant (.int 1) k p1) p2)) p3) pos) (fun e m => (fa e m).bind fun x m1 => match lstOf m1 x with | some xs => .ok (.lst xs.reverse) m1 | none => .bad) := by
  refine pe_w (pe_revL h) fun σ H Q ⟨g, e, m, rl, so, p⟩ => ?_
  refine lift_go rl so p fun g1 H1 x m1 v r1 so1 s1 hv p1 => ?_
  split at p1
  · rename_i xs ex
    obtain ⟨b, vs, rfl, k2, r2, l⟩ := lstOf_rep r1 ex hv
    exact ⟨b, vs, rfl, SqL.of k2, fun q hq => PoT.lst r1 hq p1 (by rw [List.length_reverse]; exact l) (reps_rev r2)⟩
  · exact p1.elim
open PyProof PyProof.Rows in
theorem pick_vals {xs : List V} {its : List Value} (h : Vals xs its) (js : List Nat) : Vals (js.filterMap (xs[·]?)) (js.filterMap (its[·]?)) := by
  have at' : ∀ {xs : List V} {its : List Value}, Vals xs its → ∀ j : Nat, (xs[j]? = none ∧ its[j]? = none) ∨ ∃ x v, xs[j]? = some x ∧ its[j]? = some v ∧ RelV x v := by
    intro xs its h
    induction h with
    | nil => intro j; exact .inl ⟨by simp, by simp⟩
    | cons p q ih =>
      intro j
      cases j with
      | zero => exact .inr ⟨_, _, rfl, rfl, p⟩
      | succ j => simpa using ih j
  induction js with
  | nil => exact .nil
  | cons j js ih =>
    rcases at' h j with ⟨h1, h2⟩ | ⟨x, v, h1, h2, h3⟩
    · rw [List.filterMap_cons_none h1, List.filterMap_cons_none h2]
      exact ih
    · rw [List.filterMap_cons_some h1, List.filterMap_cons_some h2]
      exact .cons h3 ih
open PyProof PyProof.Rows in
theorem pickL_len {α : Type} {k : Int} (hk : 1 ≤ k) (xs : List α) : (pickL k xs).length ≤ xs.length := by
  refine Nat.le_trans (List.length_filterMap_le _ _) ?_
  exact sliceRange_length_le 0 xs.length k xs.length (fun _ => ⟨Int.le_refl _, Int.le_refl _⟩) (fun h => absurd (show k > 0 by omega) h)
open PyProof PyProof.Rows in
theorem pick_pick {k : Int} (hk : 1 ≤ k) (its : List Value) : slicePick its.toArray none none (some k) = (pickL k its).toArray := by
  have hk' : k > 0 := by omega
  unfold slicePick sliceBounds pickL
  simp only [Option.getD_some, hk', if_true, List.size_toArray, List.getElem?_toArray]
def tStpL (K : PySem.W.Frag) (te ts : TE) : TE := fun σ H Q => te σ H fun x H1 => tPart ts σ H1 fun o H2 => ∃ k a xs, o = some k ∧ 1 ≤ k ∧ x = .ref a ∧ SqL K H2 a xs ∧ ∀ p, H2 p = none → Q (.ref p) (upd H2 p (.lst (pickL k xs)))
open PyProof PyProof.Rows in
theorem pe_stpL {e e2 : Expr} {te ts : TE} {p3 pos : Pos} (he : PE X e te) (h2 : PE X e2 ts) : PE X (.Subscript e (.Slice none none (some e2) p3) pos) (tStpL X.K te ts) := by
  refine ⟨fun pins s σ H Q I h => ?_⟩
  refine Subscript_ (thn (he.run pins s σ H _ I h) fun v s1 ⟨x, H1, I1, r1, q1⟩ => ?_)
  have hst : PO X (some e2) (tPart ts) := po_some h2
  refine wpAny_Slice (thn (po_none.run pins s1 σ H1 (fun o H2 => o = none ∧ H2 = H1) I1 ⟨rfl, rfl⟩) fun vl s2 ⟨l, H2, I2, pl, el, e2⟩ => ?_)
  subst el e2
  refine thn (po_none.run pins s2 σ H2 (fun o H3 => o = none ∧ H3 = H2) I2 ⟨rfl, rfl⟩) fun vu s3 ⟨u, H3, I3, pu, eu, e3⟩ => ?_
  subst eu e3
  refine thn (hst.run pins s3 σ H3 _ I3 q1) fun vs s4 ⟨o, H4, I4, ps, k, a, xs, eo, hk, ex, hx, q⟩ => ?_
  subst eo ex
  cases r1
  have I5 : Inv X pins σ H4 { s4 with heap := s4.heap.push { cls := .type "slice", data := .fields #[vl, vu, vs] } } := I4.kept (t' := s4.toks) fun b ob q => Heap.get?_push_of_some _ q
  obtain ⟨its, r, ht, hz⟩ := I5.list hx
  have hlen := r.length
  show wpAny (model X.prog X.w) X.A (subscriptTail e (.Slice none none (some e2) p3) (.ref a) (.ref s4.heap.objs.size)) (EP X pins σ Q) X.xe { s4 with heap := s4.heap.push { cls := .type "slice", data := .fields #[vl, vu, vs] } }
  refine tail_any (ops := [.ref a, .ref s4.heap.objs.size]) ht.isList.typeIs (PySem.slot_list_getitem.lookup) ?_ (by with_unfolding_all rfl)
  refine wpAny_getItem_list_slice ht.isList (Heap.IsSliceOf.new _ vl vu vs) pl pu ps (by intro z; cases z; omega) ?_ (by rw [List.size_toArray]; omega)
  rw [pick_pick hk]
  refine ⟨.ref _, _, I5.laid (t' := s4.toks) (o := .lst (pickL k xs)) (fun b ob q => Heap.get?_push_of_some _ q) (Nat.le_refl _) ?_, rfl, q _ (I5.hok.fresh (Nat.le_refl _))⟩
  refine ⟨Nat.le_trans (pickL_len hk xs) hz, _, 0, ?_, Heap.get?_push_size _ rfl⟩
  unfold pickL
  rw [← hlen]
  exact pick_vals r _
theorem reps_pick {S : Sg} {g : Gh} {H : Hp} {xs : List T} {vs : List V} (h : reps S g H xs vs) (js : List Nat) : reps S g H (js.filterMap (xs[·]?)) (js.filterMap (vs[·]?)) := by
  have at' : ∀ {xs : List T} {vs : List V}, reps S g H xs vs → ∀ j : Nat, (xs[j]? = none ∧ vs[j]? = none) ∨ ∃ x v, xs[j]? = some x ∧ vs[j]? = some v ∧ rep S g H x v := by
    intro xs
    induction xs with
    | nil =>
      intro vs h j
      have e : vs = [] := h
      subst e
      exact .inl ⟨by simp, by simp⟩
    | cons x xs ih =>
      intro vs h j
      obtain ⟨v, r, rfl, h1, h2⟩ := h
      cases j with
      | zero => exact .inr ⟨_, _, rfl, rfl, h1⟩
      | succ j => simpa using ih h2 j
  induction js with
  | nil => exact rfl
  | cons j js ih =>
    rcases at' h j with ⟨h1, h2⟩ | ⟨x, v, h1, h2, h3⟩
    · rw [List.filterMap_cons_none h1, List.filterMap_cons_none h2]
      exact ih
    · rw [List.filterMap_cons_some h1, List.filterMap_cons_some h2]
      exact ⟨_, _, rfl, h3, ih⟩
theorem be_stp {a k : Expr} {fa fk : Sl → Sto → Rs T} {p3 pos : Pos} (h : BE X tab z W a fa) (hk : BE X tab z W k fk) :
    BE X tab z W (.Subscript a (.Slice none none (some k) p3) pos) (fun e m => (fa e m).bind fun x m1 => (fk e m1).bind fun y m2 => stpT x y m2) := by
  refine pe_w (pe_stpL h hk) fun σ H Q ⟨g, e, m, rl, so, p⟩ => ?_
  refine lift_go rl so p fun g1 H1 x m1 v r1 so1 s1 hv p1 => ?_
  refine (show lift (sg X tab) z W fk σ H1 _ from lift_go r1 so1 p1 fun g2 H2 y m2 u r2 so2 s2 hu p2 => ?_)
  unfold stpT at p2
  split at p2
  · rename_i k
    split at p2
    · rename_i xs ex
      split at p2
      · rename_i hk1
        obtain rfl : u = .int k := hu
        obtain ⟨b, vs, rfl, k2, rr, l⟩ := lstOf_rep r2 ex (rep_mono s2 x v hv)
        have len : xs.length = vs.length := (reps_len rr).symm
        refine ⟨k, rfl, k, b, vs, rfl, hk1, rfl, SqL.of k2, fun q hq => PoT.lst r2 hq p2 (Nat.le_trans (pickL_len hk1 xs) l) ?_⟩
        unfold pickL
        rw [len]
        exact reps_pick rr _
      · exact p2.elim
    · exact p2.elim
  · exact p2.elim
/-! ### displays of dicts -/
/-- keys and values by turns, as the display has them -/
inductive Alt : List (Option Expr) → List Expr → List Expr → Prop where
  | nil : Alt [] [] []
  | cons {k v : Expr} {ks : List (Option Expr)} {vs es : List Expr} (h : Alt ks vs es) : Alt (some k :: ks) (v :: vs) (k :: v :: es)
/-- the pairs' readings -/
def trOf (S : Sg) (z : Option Xz) (W : WX) : List ME → List (TE × TE)
  | a :: b :: r => (lift S z W (den a), lift S z W (den b)) :: trOf S z W r
  | _ => []
def flat2 : List (V × V) → List V
  | [] => []
  | p :: ps => p.1 :: p.2 :: flat2 ps
theorem pairs_go {S : Sg} {β : Type} {R : Gh → Hp → β → Sto → Prop} {e : Sl} {σ : L2.St} : ∀ (l : List ME) {Q : List (V × V) → Hp → Prop} {g : Gh} {m : Sto} {H : Hp} {k : List T → Sto → Rs β}, l.length % 2 = 0 → Rel S g m H → slotsOk S z g H e σ → Po S g H R (fun c d H' => W c d σ H') ((denL l e m).bind k) →
    (∀ g1 H1 ts m1 ps, Rel S g1 m1 H1 → slotsOk S z g1 H1 e σ → Stp g H g1 H1 → reps S g1 H1 ts (flat2 ps) → Po S g1 H1 R (fun c d H' => W c d σ H') (k ts m1) → Q ps H1) → tPairs (trOf S z W l) σ H Q
  | [], Q, g, m, H, k, _, rl, so, p, h => by
    simp only [denL, bind_ok] at p
    exact h g H [] m [] rl so (Stp.refl g H) rfl p
  | [_], _, _, _, _, _, hl, _, _, _, _ => by simp at hl
  | a :: b :: r, Q, g, m, H, k, hl, rl, so, p, h => by
    simp only [denL] at p
    have as : ∀ {α γ δ : Type} (x : Rs α) (f : α → Sto → Rs γ) (g : γ → Sto → Rs δ), (x.bind f).bind g = x.bind fun a m => (f a m).bind g := fun x f g => by cases x <;> rfl
    rw [as] at p
    show lift S z W (den a) σ H _
    refine lift_go rl so p fun g1 H1 x m1 v r1 so1 s1 hv p1 => ?_
    rw [as, as] at p1
    refine lift_go r1 so1 p1 fun g2 H2 y m2 u r2 so2 s2 hu p2 => ?_
    rw [as] at p2
    refine pairs_go r (by simp at hl; omega) r2 so2 p2 fun g3 H3 ts m3 ps r3 so3 s3 hts p3 => ?_
    simp only [bind_ok] at p3
    exact h g3 H3 (x :: y :: ts) m3 ((v, u) :: ps) r3 so3 (s1.trans (s2.trans s3)) ⟨v, _, rfl, rep_mono (s2.trans s3) x v hv, u, _, rfl, rep_mono s3 y u hu, hts⟩ p3
theorem kvOf_rep {S : Sg} {g : Gh} {H : Hp} : ∀ {ts : List T} {kvs : List (L2.Key × T)} {ps : List (V × V)}, kvOf ts = some kvs → reps S g H ts (flat2 ps) → ∃ us : List (L2.Key × V), ps = us.map (fun kv => (kV kv.1, kv.2)) ∧ us.map (·.1) = kvs.map (·.1) ∧ reps S g H (kvs.map (·.2)) (us.map (·.2))
  | [], kvs, ps, e, h => by
    obtain rfl := Option.some.inj e
    cases ps with
    | nil => exact ⟨[], rfl, rfl, rfl⟩
    | cons p ps => cases (show p.1 :: p.2 :: flat2 ps = [] from h)
  | [x], kvs, ps, e, h => nomatch e
  | x :: y :: r, kvs, ps, e, h => by
    unfold kvOf at e
    split at e
    · rename_i k l hk hl
      obtain rfl := Option.some.inj e
      cases ps with
      | nil =>
        obtain ⟨v, w, e1, _⟩ := h
        cases (show ([] : List V) = v :: w from e1)
      | cons p ps =>
        obtain ⟨v, w, e1, h1, u, w2, e2, h2, h3⟩ := h
        subst e2
        obtain ⟨e3, e4⟩ := List.cons.inj (show p.1 :: p.2 :: flat2 ps = v :: u :: w2 from e1)
        obtain ⟨e5, e6⟩ := List.cons.inj e4
        subst e6
        obtain ⟨us, q1, q2, q3⟩ := kvOf_rep hl h3
        refine ⟨(k, u) :: us, ?_, by rw [List.map_cons, List.map_cons, q2], u, _, rfl, h2, q3⟩
        have e7 := key_rep hk h1
        rw [List.map_cons, ← q1]
        have e3 : p.1 = v := e3
        have e5 : p.2 = u := e5
        rw [← e7, ← e3, ← e5]
    · cases e
theorem mrg_rel {S : Sg} {g : Gh} {H : Hp} : ∀ {more : List (L2.Key × T)} {mus : List (L2.Key × V)} {kvs : List (L2.Key × T)} {us : List (L2.Key × V)}, mus.map (·.1) = more.map (·.1) → reps S g H (more.map (·.2)) (mus.map (·.2)) → us.map (·.1) = kvs.map (·.1) → reps S g H (kvs.map (·.2)) (us.map (·.2)) →
    (mergeK us mus).map (·.1) = (dmrgT kvs more).map (·.1) ∧ reps S g H ((dmrgT kvs more).map (·.2)) ((mergeK us mus).map (·.2))
  | [], [], _, _, _, _, h, r => ⟨h, r⟩
  | [], _ :: _, _, _, h, _, _, _ => nomatch h
  | _ :: _, [], _, _, h, _, _, _ => nomatch h
  | p :: more, q :: mus, kvs, us, h, r, h', r' => by
    obtain ⟨e1, e2⟩ := List.cons.inj h
    obtain ⟨w, l, e3, r1, r2⟩ := r
    obtain ⟨e4, e5⟩ := List.cons.inj e3
    subst e5
    have e4 : q.2 = w := e4
    have e1 : q.1 = p.1 := e1
    obtain ⟨i1, i2⟩ := put_rel (k := p.1) r1 h' r'
    have := mrg_rel (more := more) (mus := mus) (kvs := dputT kvs p.1 p.2) (us := putK us q.1 q.2) e2 r2 (by rw [e1, e4]; exact i1) (by rw [e1, e4]; exact i2)
    exact this
theorem dmrg_len : ∀ (more kvs : List (L2.Key × T)), (dmrgT kvs more).length ≤ kvs.length + more.length
  | [], kvs => by show kvs.length ≤ kvs.length + 0; omega
  | p :: r, kvs => by
    have h1 := dmrg_len r (dputT kvs p.1 p.2)
    have h2 := dput_len kvs p.1 p.2
    show (dmrgT (dputT kvs p.1 p.2) r).length ≤ _
    rw [List.length_cons]; omega
theorem be_dnew {keys : List (Option Expr)} {vals es : List Expr} {l : List ME} {pos : Pos} (ha : Alt keys vals es) (he : l.length = es.length) (hp : PPs X pos keys vals (trOf (sg X tab) z W l)) (hk : keys ≠ []) (h15 : keys.length ≤ 15) :
    BE X tab z W (.Dict keys vals pos) (den (.dnew l)) := by
  have al : ∀ {keys : List (Option Expr)} {vals es : List Expr}, Alt keys vals es → keys.all (·.isSome) = true ∧ keys.length = vals.length ∧ es.length = 2 * keys.length := fun h => by
    induction h with
    | nil => exact ⟨rfl, rfl, rfl⟩
    | cons h ih =>
      obtain ⟨i1, i2, i3⟩ := ih
      exact ⟨by rw [List.all_cons, i1]; rfl, by rw [List.length_cons, List.length_cons, i2], by rw [List.length_cons, List.length_cons, List.length_cons, i3]; omega⟩
  obtain ⟨a1, a2, a3⟩ := al ha
  refine pe_w (pe_disp hp a1 a2 hk h15) fun σ H Q ⟨g, e, m, rl, so, p⟩ => ?_
  intro a han
  have st := stp_addH (o := .dK []) rl han
  have re := rel_addH (o := .dK []) (c := .dK []) rl han ⟨[], upd_same, by simp, rfl, rfl⟩
  simp only [den] at p
  have p0 := Po.later st p
  refine pairs_go (S := sg X tab) l (by omega) re (slots_mono st so) p0 fun g1 H1 ts m1 ps r1 so1 s1 hts p1 => ?_
  unfold dnewT at p1
  split at p1
  · rename_i kvs hn hkv
    split at p1
    · rename_i c
      obtain ⟨us, u1, u2, u3⟩ := kvOf_rep hkv hts
      have hpa : g1.ph[m.length]? = some a := s1.at (by
        show (g.ph ++ [a])[m.length]? = some a
        rw [← rl.len, List.getElem?_append_right (Nat.le_refl _), Nat.sub_self]
        rfl)
      obtain ⟨us0, k1, k2, k3, k4⟩ := r1.cell m.length a _ hpa hn
      have e0 : us0 = [] := by simpa using k3
      subst e0
      refine ⟨k1, us, u1, ?_, ?_⟩
      · have := congrArg List.length u2
        simp at this
        omega
      · obtain ⟨i1, i2⟩ := mrg_rel (kvs := []) (us := []) u2 u3 rfl rfl
        have := dmrg_len kvs []
        obtain ⟨st2, r2⟩ := turn_dK (kvs := dmrgT [] kvs) (ws := mergeK [] us) r1 hpa k1 (by simp at this; omega) i1 i2
        exact p1 g1 _ st2 r2 (.ref a) ⟨a, rfl, hpa⟩
    · exact p1.elim
  · exact p1.elim
/-- {} -/
theorem be_dnew0 {pos : Pos} : BE X tab z W (.Dict [] [] pos) (den (.dnew [])) := by
  refine pe_w pe_dnewK fun σ H Q ⟨g, e, m, rl, so, p⟩ => ?_
  intro a han
  have st := stp_addH (o := .dK []) rl han
  have re := rel_addH (o := .dK []) (c := .dK []) rl han ⟨[], upd_same, by simp, rfl, rfl⟩
  have e1 : den (.dnew []) e m = .ok (.hd m.length) (m ++ [.dK []]) := by
    have e2 : (m ++ [Cell.dK []])[m.length]? = some (.dK []) := by simp
    have e3 : (m ++ [Cell.dK []]).set m.length (.dK []) = m ++ [.dK []] := by simp
    simp only [den, denL, bind_ok]
    unfold dnewT
    rw [e2]
    show (if 0 ≤ 15 then Rs.ok (T.hd m.length) ((m ++ [Cell.dK []]).set m.length (.dK [])) else .bad) = _
    rw [if_pos (by omega), e3]
  rw [e1] at p
  refine p (addH g a) _ st re (.ref a) ⟨a, rfl, ?_⟩
  show (g.ph ++ [a])[m.length]? = some a
  rw [← rl.len, List.getElem?_append_right (Nat.le_refl _), Nat.sub_self]
  rfl
end
end BV
/-! what is walked; loops; comprehensions -/
namespace BV
open PySem PySem.Spec L2
section
variable {X : Cx} {tab : List (Str × List Str)} {z : Option Xz} {W : WX}
structure Walks (S : Sg) (g : Gh) (H : Hp) (J : It) (w : Wk) : Prop where
  go : ∀ g' m' H' i t, Stp g H g' H' → Rel S g' m' H' → stands w m' → w.xs[i]? = some t → J.go i H' ∧ ∀ x H'', J.yld i H' x H'' → (∀ a o, H' a = some o → H'' a = some o) ∧ rep S g' H'' t x
  stop : ∀ g' m' H', Stp g H g' H' → Rel S g' m' H' → stands w m' → J.stop w.xs.length H'
  len : w.xs.length ≤ 16777216
def liftI (S : Sg) (z : Option Xz) (W : WX) (f : Sl → Sto → Rs Wk) : TI := fun σ H R => ∃ g e m, Rel S g m H ∧ slotsOk S z g H e σ ∧ Po S g H (fun g' H' w m' => stands w m' ∧ ∀ J, Walks S g' H' J w → R J H') (fun c d H' => W c d σ H') (f e m)
abbrev BI' (X : Cx) (tab : List (Str × List Str)) (z : Option Xz) (W : WX) (tg it : Expr) (f : Sl → Sto → Rs Wk) : Prop := PI X tg it (liftI (sg X tab) z W f)
theorem pi_w {tg it : Expr} {t t' : TI} (h : PI X tg it t) (k : ∀ σ H R, t' σ H R → t σ H R) : PI X tg it t' := ⟨fun pins s σ H R I q => h.run pins s σ H R I (k σ H R q)⟩
theorem pi_or {tg it : Expr} {t t' : TI} (h : PI X tg it t) (h' : PI X tg it t') : PI X tg it (fun σ H R => t σ H R ∨ t' σ H R) := ⟨fun pins s σ H R I q => q.elim (h.run pins s σ H R I) (h'.run pins s σ H R I)⟩
theorem walks_lst {S : Sg} {g : Gh} {H : Hp} {a : Addr} {xs : List T} {vs : List V} (na : ¬ g.A a) (ha : H a = some (.lst vs)) (r : reps S g H xs vs) (ln : xs.length ≤ 16777216) : Walks S g H (Itl S.K a) ⟨xs, none⟩ := by
  have at' : ∀ {g' : Gh} {H' : Hp}, Stp g H g' H' → H' a = some (.lst vs) := fun s => (s.kp a _ ha fun z => na (g.sub a z)).1
  refine ⟨fun g' m' H' i t s rl _ ht => ?_, fun g' m' H' s rl _ => ⟨vs, SqL.of (at' s), by rw [reps_len r]; exact Nat.le_refl _⟩, ln⟩
  obtain ⟨v, h1, h2⟩ := reps_get (reps_mono s _ _ r) ht
  refine ⟨⟨vs, v, SqL.of (at' s), h1⟩, fun x H'' hy => ?_⟩
  obtain ⟨e, hy⟩ := hy
  subst e
  have e2 := hy vs (SqL.of (at' s))
  rw [h1] at e2
  obtain rfl := Option.some.inj e2
  exact ⟨fun _ _ h => h, h2⟩
theorem walks_scr {S : Sg} {g : Gh} {H : Hp} {a : Addr} {xs : List Int} (ha : SqA S.K g.A H a (xs.map .int)) (ln : xs.length ≤ 16777216) : Walks S g H (Itl S.K a) ⟨xs.map .int, none⟩ := by
  have at' : ∀ {g' : Gh} {H' : Hp}, Stp g H g' H' → SqL S.K H' a (xs.map .int) := fun s => by
    rcases ha with (⟨o, ha⟩ | ha) | ⟨n, ha⟩
    · exact .inl (.inr ⟨o, s.fz a o _ ha⟩)
    · exact SqS.sq (.inr ha)
    · exact .inl (.inl (s.kp a _ ha fun z => n (g.sub a z)).1)
  refine ⟨fun g' m' H' i t s rl _ ht => ?_, fun g' m' H' s rl _ => ⟨_, at' s, by rw [List.length_map, List.length_map]; exact Nat.le_refl _⟩, by rw [List.length_map]; exact ln⟩
  obtain ⟨v, h1, h2⟩ := reps_get (reps_ints (S := S) (g := g') (H := H') xs) ht
  refine ⟨⟨_, v, at' s, h1⟩, fun x H'' hy => ?_⟩
  obtain ⟨e, hy⟩ := hy
  subst e
  have e2 := hy _ (at' s)
  rw [h1] at e2
  obtain rfl := Option.some.inj e2
  exact ⟨fun _ _ h => h, h2⟩
theorem walks_tup {S : Sg} {g : Gh} {H : Hp} {a : Addr} {xs : List T} {vs : List V} (ha : SqT S.K H a vs) (r : reps S g H xs vs) (ln : xs.length ≤ 16777216) : Walks S g H (Itt S.K a) ⟨xs, none⟩ := by
  refine ⟨fun g' m' H' i t s rl _ ht => ?_, fun g' m' H' s rl _ => ⟨vs, s.sqt ha, by rw [reps_len r]; exact Nat.le_refl _⟩, ln⟩
  obtain ⟨v, h1, h2⟩ := reps_get (reps_mono s _ _ r) ht
  refine ⟨⟨vs, v, s.sqt ha, h1⟩, fun x H'' hy => ?_⟩
  obtain ⟨e, hy⟩ := hy
  subst e
  have e2 := hy vs (s.sqt ha)
  rw [h1] at e2
  obtain rfl := Option.some.inj e2
  exact ⟨fun _ _ h => h, h2⟩
theorem walks_hd {S : Sg} {g : Gh} {H : Hp} {n : Nat} {a : Addr} {xs : List T} (ha : g.ph[n]? = some a) (ln : xs.length ≤ 16777216) : Walks S g H (Itl S.K a) ⟨xs, some (.l n)⟩ := by
  have at' : ∀ {g' : Gh} {m' : Sto} {H' : Hp}, Stp g H g' H' → Rel S g' m' H' → stands ⟨xs, some (.l n)⟩ m' → ∃ vs, H' a = some (.lst vs) ∧ reps S g' H' xs vs := fun {g' m' H'} s rl st => by
    obtain ⟨vs, h1, h2, h3⟩ := rl.cell n a _ (s.at ha) st
    exact ⟨vs, h1, h3⟩
  refine ⟨fun g' m' H' i t s rl st ht => ?_, fun g' m' H' s rl st => ?_, ln⟩
  · obtain ⟨vs, k1, k2⟩ := at' s rl st
    obtain ⟨v, h1, h2⟩ := reps_get k2 ht
    refine ⟨⟨vs, v, SqL.of k1, h1⟩, fun x H'' hy => ?_⟩
    obtain ⟨e, hy⟩ := hy
    subst e
    have e2 := hy vs (SqL.of k1)
    rw [h1] at e2
    obtain rfl := Option.some.inj e2
    exact ⟨fun _ _ h => h, h2⟩
  · obtain ⟨vs, k1, k2⟩ := at' s rl st
    exact ⟨vs, SqL.of k1, by rw [reps_len k2]; exact Nat.le_refl _⟩
theorem walks_str {S : Sg} {g : Gh} {H : Hp} {a : Str} (ln : a.length ≤ 16777216) : Walks S g H (Its a) ⟨a.cps.toList.map fun c => .str ⟨#[c]⟩, none⟩ := by
  refine ⟨fun g' m' H' i t s rl _ ht => ?_, fun g' m' H' s rl _ => ?_, by rw [List.length_map]; exact ln⟩
  · have ht' : (a.cps.toList.map fun c => T.str ⟨#[c]⟩)[i]? = some t := ht
    rw [List.getElem?_map] at ht'
    cases q : a.cps.toList[i]? with
    | none => rw [q] at ht'; cases ht'
    | some c =>
      rw [q] at ht'
      obtain rfl : T.str ⟨#[c]⟩ = t := Option.some.inj ht'
      have q' : a.cps[i]? = some c := by rw [← Array.getElem?_toList]; exact q
      refine ⟨(Array.getElem?_eq_some_iff.mp q').1, fun x H'' hy => ?_⟩
      obtain ⟨e, c', h1, h2⟩ := hy
      subst e
      rw [q'] at h1
      obtain rfl := Option.some.inj h1
      exact ⟨fun _ _ h => h, h2, by show 1 ≤ 16777216; decide⟩
  · show a.cps.size ≤ (a.cps.toList.map _).length
    rw [List.length_map]
    exact Nat.le_refl _
theorem walks_rng {S : Sg} {g : Gh} {H : Hp} {lo hi : Int} (ln : hi - lo ≤ 16777216) : Walks S g H (Itr lo (hi - lo).toNat) ⟨rngL lo hi, none⟩ := by
  refine ⟨fun g' m' H' i t s rl _ ht => ?_, fun g' m' H' s rl _ => ?_, by unfold rngL; rw [List.length_map, List.length_range]; omega⟩
  · have ht' : (rngL lo hi)[i]? = some t := ht
    unfold rngL at ht'
    rw [List.getElem?_map] at ht'
    cases q : (List.range (hi - lo).toNat)[i]? with
    | none => rw [q] at ht'; cases ht'
    | some c =>
      rw [q] at ht'
      have hi' := (List.getElem?_eq_some_iff.mp q).1
      rw [List.length_range] at hi'
      have ec : c = i := by
        rw [List.getElem?_range hi'] at q
        exact (Option.some.inj q).symm
      subst ec
      obtain rfl : T.int (lo + c) = t := Option.some.inj ht'
      refine ⟨hi', fun x H'' hy => ?_⟩
      obtain ⟨e, hy⟩ := hy
      subst e
      exact ⟨fun _ _ h => h, hy⟩
  · show (hi - lo).toNat ≤ (rngL lo hi).length
    unfold rngL
    rw [List.length_map, List.length_range]
    exact Nat.le_refl _
theorem walks_rngC {S : Sg} {g : Gh} {H : Hp} {lo hi c : Int} (ln : rngN lo hi c ≤ 16777216) : Walks S g H (Itc lo c (rngN lo hi c).toNat) ⟨rngC lo hi c, none⟩ := by
  refine ⟨fun g' m' H' i t s rl _ ht => ?_, fun g' m' H' s rl _ => ?_, by unfold rngC; rw [List.length_map, List.length_range]; omega⟩
  · have ht' : (rngC lo hi c)[i]? = some t := ht
    unfold rngC at ht'
    rw [List.getElem?_map] at ht'
    cases q : (List.range (rngN lo hi c).toNat)[i]? with
    | none => rw [q] at ht'; cases ht'
    | some k =>
      rw [q] at ht'
      have hi' := (List.getElem?_eq_some_iff.mp q).1
      rw [List.length_range] at hi'
      have ec : k = i := by
        rw [List.getElem?_range hi'] at q
        exact (Option.some.inj q).symm
      subst ec
      obtain rfl : T.int (lo + k * c) = t := Option.some.inj ht'
      refine ⟨hi', fun x H'' hy => ?_⟩
      obtain ⟨e, hy⟩ := hy
      subst e
      exact ⟨fun _ _ h => h, hy⟩
  · show (rngN lo hi c).toNat ≤ (rngC lo hi c).length
    unfold rngC
    rw [List.length_map, List.length_range]
    exact Nat.le_refl _
theorem enmL_get : ∀ {xs : List T} {k i : Nat} {t : T}, (enmL k xs)[i]? = some t → ∃ x, xs[i]? = some x ∧ t = .tup [.int ((k + i : Nat) : Int), x]
  | [], k, i, t, h => by simp [enmL] at h
  | x :: xs, k, 0, t, h => by
    have e : T.tup [.int (k : Int), x] = t := by simpa [enmL] using h
    exact ⟨x, by simp, by rw [← e]; simp⟩
  | x :: xs, k, i + 1, t, h => by
    obtain ⟨y, h1, h2⟩ := enmL_get (xs := xs) (k := k + 1) (i := i) (t := t) (by simpa [enmL] using h)
    exact ⟨y, by simpa using h1, by rw [h2]; congr 4; omega⟩
theorem enmL_len : ∀ (xs : List T) (k : Nat), (enmL k xs).length = xs.length
  | [], _ => rfl
  | x :: xs, k => by
    show (enmL (k + 1) xs).length + 1 = xs.length + 1
    rw [enmL_len xs (k + 1)]
theorem walks_enm {S : Sg} {g : Gh} {H : Hp} {a : Addr} {xs : List T} {vs : List V} (na : ¬ g.A a) (ha : H a = some (.lst vs)) (r : reps S g H xs vs) (ln : xs.length ≤ 16777216) : Walks S g H (Ite S.K a) ⟨enmL 0 xs, none⟩ := by
  have at' : ∀ {g' : Gh} {H' : Hp}, Stp g H g' H' → H' a = some (.lst vs) := fun s => (s.kp a _ ha fun z => na (g.sub a z)).1
  refine ⟨fun g' m' H' i t s rl _ ht => ?_, fun g' m' H' s rl _ => ⟨vs, SqL.of (at' s), by rw [reps_len r]; show _ ≤ (enmL 0 xs).length; rw [enmL_len]; exact Nat.le_refl _⟩, by show (enmL 0 xs).length ≤ _; rw [enmL_len]; exact ln⟩
  obtain ⟨x, h1, h2⟩ := enmL_get ht
  obtain ⟨v, k1, k2⟩ := reps_get (reps_mono s _ _ r) h1
  refine ⟨⟨vs, v, SqL.of (at' s), k1⟩, fun y H'' hy => ?_⟩
  obtain ⟨Tn, w, e1, hn, e2, e3⟩ := hy
  have e4 := e3 vs (SqL.of (at' s))
  rw [k1] at e4
  obtain rfl := Option.some.inj e4
  subst e1 e2 h2
  refine ⟨ext_upd hn, Tn, _, rfl, SqT.of upd_same, by show 2 ≤ 16777216; decide, ?_⟩
  exact ⟨_, _, rfl, by rw [Nat.zero_add]; rfl, _, [], rfl, rep_mono (Stp.ext (ext_upd hn)) _ _ k2, rfl⟩
theorem enmL_inj : ∀ {xs ys : List T} {k : Nat}, enmL k xs = enmL k ys → xs = ys
  | [], [], _, _ => rfl
  | [], y :: ys, k, h => by simp [enmL] at h
  | x :: xs, [], k, h => by simp [enmL] at h
  | x :: xs, y :: ys, k, h => by
    have h' : T.tup [.int (k : Int), x] = T.tup [.int (k : Int), y] ∧ enmL (k + 1) xs = enmL (k + 1) ys := by simpa [enmL] using h
    have e : x = y := by simpa using h'.1
    rw [e, enmL_inj h'.2]
theorem stands_enm {xs : List T} {n : Nat} {m : Sto} : stands ⟨enmL 0 xs, some (.e n)⟩ m ↔ m[n]? = some (.lst xs) := by
  show (∃ ys, m[n]? = some (.lst ys) ∧ enmL 0 xs = enmL 0 ys) ↔ _
  exact ⟨fun ⟨ys, h1, h2⟩ => by rw [enmL_inj h2]; exact h1, fun h => ⟨xs, h, rfl⟩⟩
theorem walks_enmh {S : Sg} {g : Gh} {H : Hp} {n : Nat} {a : Addr} {xs : List T} (ha : g.ph[n]? = some a) (ln : xs.length ≤ 16777216) : Walks S g H (Ite S.K a) ⟨enmL 0 xs, some (.e n)⟩ := by
  have at' : ∀ {g' : Gh} {m' : Sto} {H' : Hp}, Stp g H g' H' → Rel S g' m' H' → stands ⟨enmL 0 xs, some (.e n)⟩ m' → ∃ vs, H' a = some (.lst vs) ∧ reps S g' H' xs vs := fun {g' m' H'} s rl st => by
    obtain ⟨vs, h1, h2, h3⟩ := rl.cell n a _ (s.at ha) (stands_enm.mp st)
    exact ⟨vs, h1, h3⟩
  refine ⟨fun g' m' H' i t s rl st ht => ?_, fun g' m' H' s rl st => ?_, by show (enmL 0 xs).length ≤ _; rw [enmL_len]; exact ln⟩
  · obtain ⟨vs, q1, q2⟩ := at' s rl st
    obtain ⟨x, h1, h2⟩ := enmL_get ht
    obtain ⟨v, k1, k2⟩ := reps_get q2 h1
    refine ⟨⟨vs, v, SqL.of q1, k1⟩, fun y H'' hy => ?_⟩
    obtain ⟨Tn, w, e1, hn, e2, e3⟩ := hy
    have e4 := e3 vs (SqL.of q1)
    rw [k1] at e4
    obtain rfl := Option.some.inj e4
    subst e1 e2 h2
    refine ⟨ext_upd hn, Tn, _, rfl, SqT.of upd_same, by show 2 ≤ 16777216; decide, ?_⟩
    exact ⟨_, _, rfl, by rw [Nat.zero_add]; rfl, _, [], rfl, rep_mono (Stp.ext (ext_upd hn)) _ _ k2, rfl⟩
  · obtain ⟨vs, k1, k2⟩ := at' s rl st
    exact ⟨vs, SqL.of k1, by rw [reps_len k2]; show _ ≤ (enmL 0 xs).length; rw [enmL_len]; exact Nat.le_refl _⟩
theorem zipL_get : ∀ {xs ys : List T} {i : Nat} {t : T}, (zipL xs ys)[i]? = some t → ∃ x y, xs[i]? = some x ∧ ys[i]? = some y ∧ t = .tup [x, y]
  | [], ys, i, t, h => by simp [zipL] at h
  | x :: xs, [], i, t, h => by simp [zipL] at h
  | x :: xs, y :: ys, 0, t, h => by
    have e : T.tup [x, y] = t := by simpa [zipL] using h
    exact ⟨x, y, by simp, by simp, e.symm⟩
  | x :: xs, y :: ys, i + 1, t, h => by
    obtain ⟨u, v, h1, h2, h3⟩ := zipL_get (xs := xs) (ys := ys) (i := i) (t := t) (by simpa [zipL] using h)
    exact ⟨u, v, by simpa using h1, by simpa using h2, h3⟩
theorem zipL_len : ∀ (xs ys : List T), (zipL xs ys).length = min xs.length ys.length
  | [], ys => by simp [zipL]
  | x :: xs, [] => by simp [zipL]
  | x :: xs, y :: ys => by
    show (zipL xs ys).length + 1 = min (xs.length + 1) (ys.length + 1)
    rw [zipL_len xs ys]
    omega
theorem walks_zip {S : Sg} {g : Gh} {H : Hp} {a b : Addr} {xs ys : List T} {vs ws : List V} (na : ¬ g.A a) (ha : H a = some (.lst vs)) (r : reps S g H xs vs) (nb : ¬ g.A b) (hb : H b = some (.lst ws)) (r' : reps S g H ys ws) (ln : xs.length ≤ 16777216) :
    Walks S g H (Itz S.K a b) ⟨zipL xs ys, none⟩ := by
  have at1 : ∀ {g' : Gh} {H' : Hp}, Stp g H g' H' → H' a = some (.lst vs) := fun s => (s.kp a _ ha fun z => na (g.sub a z)).1
  have at2 : ∀ {g' : Gh} {H' : Hp}, Stp g H g' H' → H' b = some (.lst ws) := fun s => (s.kp b _ hb fun z => nb (g.sub b z)).1
  refine ⟨fun g' m' H' i t s rl _ ht => ?_, fun g' m' H' s rl _ => ⟨vs, ws, SqL.of (at1 s), SqL.of (at2 s), ?_⟩, by show (zipL xs ys).length ≤ _; rw [zipL_len]; omega⟩
  · obtain ⟨x, y, h1, h2, h3⟩ := zipL_get ht
    obtain ⟨v, k1, k2⟩ := reps_get (reps_mono s _ _ r) h1
    obtain ⟨w, l1, l2⟩ := reps_get (reps_mono s _ _ r') h2
    refine ⟨⟨vs, ws, v, w, SqL.of (at1 s), SqL.of (at2 s), k1, l1⟩, fun u H'' hy => ?_⟩
    obtain ⟨Tn, v', w', e1, hn, e2, e3, e4⟩ := hy
    have q1 := e3 vs (SqL.of (at1 s))
    have q2 := e4 ws (SqL.of (at2 s))
    rw [k1] at q1
    rw [l1] at q2
    obtain rfl := Option.some.inj q1
    obtain rfl := Option.some.inj q2
    subst e1 e2 h3
    refine ⟨ext_upd hn, Tn, _, rfl, SqT.of upd_same, by show 2 ≤ 16777216; decide, ?_⟩
    exact ⟨_, _, rfl, rep_mono (Stp.ext (ext_upd hn)) _ _ k2, _, [], rfl, rep_mono (Stp.ext (ext_upd hn)) _ _ l2, rfl⟩
  · rw [reps_len r, reps_len r']
    show _ ≤ (zipL xs ys).length ∨ _ ≤ (zipL xs ys).length
    rw [zipL_len]
    omega
theorem walks_ziph {S : Sg} {g : Gh} {H : Hp} {n : Nat} {a b : Addr} {xs ys : List T} {ws : List V} (ha : g.ph[n]? = some a) (nb : ¬ g.A b) (hb : H b = some (.lst ws)) (r' : reps S g H ys ws) (ln : ys.length ≤ 16777216) :
    Walks S g H (Itz S.K a b) ⟨zipL xs ys, some (.z n ys)⟩ := by
  have at1 : ∀ {g' : Gh} {m' : Sto} {H' : Hp}, Stp g H g' H' → Rel S g' m' H' → stands ⟨zipL xs ys, some (.z n ys)⟩ m' → ∃ zs vs, zipL xs ys = zipL zs ys ∧ H' a = some (.lst vs) ∧ reps S g' H' zs vs := fun {g' m' H'} s rl st => by
    obtain ⟨zs, h0, h1⟩ := st
    obtain ⟨vs, h2, h3, h4⟩ := rl.cell n a _ (s.at ha) h0
    exact ⟨zs, vs, h1, h2, h4⟩
  have at2 : ∀ {g' : Gh} {H' : Hp}, Stp g H g' H' → H' b = some (.lst ws) := fun s => (s.kp b _ hb fun z => nb (g.sub b z)).1
  refine ⟨fun g' m' H' i t s rl st ht => ?_, fun g' m' H' s rl st => ?_, by show (zipL xs ys).length ≤ _; rw [zipL_len]; omega⟩
  · obtain ⟨zs, vs, ez, q1, q2⟩ := at1 s rl st
    have ht : (zipL xs ys)[i]? = some t := ht
    rw [ez] at ht
    obtain ⟨x, y, h1, h2, h3⟩ := zipL_get ht
    obtain ⟨v, k1, k2⟩ := reps_get q2 h1
    obtain ⟨w, l1, l2⟩ := reps_get (reps_mono s _ _ r') h2
    refine ⟨⟨vs, ws, v, w, SqL.of q1, SqL.of (at2 s), k1, l1⟩, fun u H'' hy => ?_⟩
    obtain ⟨Tn, v', w', e1, hn, e2, e3, e4⟩ := hy
    have p1 := e3 vs (SqL.of q1)
    have p2 := e4 ws (SqL.of (at2 s))
    rw [k1] at p1
    rw [l1] at p2
    obtain rfl := Option.some.inj p1
    obtain rfl := Option.some.inj p2
    subst e1 e2 h3
    refine ⟨ext_upd hn, Tn, _, rfl, SqT.of upd_same, by show 2 ≤ 16777216; decide, ?_⟩
    exact ⟨_, _, rfl, rep_mono (Stp.ext (ext_upd hn)) _ _ k2, _, [], rfl, rep_mono (Stp.ext (ext_upd hn)) _ _ l2, rfl⟩
  · obtain ⟨zs, vs, ez, q1, q2⟩ := at1 s rl st
    refine ⟨vs, ws, SqL.of q1, SqL.of (at2 s), ?_⟩
    rw [reps_len q2, reps_len r']
    show _ ≤ (zipL xs ys).length ∨ _ ≤ (zipL xs ys).length
    rw [ez, zipL_len]
    omega
theorem bi_seq {tg a : Expr} {f : Sl → Sto → Rs T} (h : BE X tab z W a f) : BI' X tab z W tg a (fun e m => (f e m).bind fun x m1 => match walkT x m1 with | some w => .ok w m1 | none => .bad) := by
  refine pi_w (pi_or (pi_list h) (pi_or (pi_tup h) (pi_str h))) fun σ H R ⟨g, e, m, rl, so, p⟩ => ?_
  -- what it is is known ahead: by the result's form
  have hx := Po.bind p
  cases q : f e m with
  | bad => rw [q] at hx; exact hx.elim
  | exc c xs m' =>
    refine .inl ⟨g, e, m, rl, so, ?_⟩
    rw [q] at hx ⊢
    exact hx
  | ok x m1 =>
    rw [q] at hx
    have fin : ∀ (w : Wk), walkT x m1 = some w → ∀ {g' : Gh} {H' : Hp}, Stp g H g' H' → Rel (sg X tab) g' m1 H' → stands w m1 ∧ ∀ J, Walks (sg X tab) g' H' J w → R J H' := fun w ew g' H' s' r' => by
      have p2 := (hx g' H' s' r').2.2
      rw [ew] at p2
      exact p2 g' H' (Stp.refl _ _) r'
    have some' : walkT x m1 ≠ none ∨ ∀ (g' : Gh) (H' : Hp), Stp g H g' H' → ¬ Rel (sg X tab) g' m1 H' := by
      by_cases c : walkT x m1 = none
      · refine .inr fun g' H' s' r' => ?_
        have p2 := (hx g' H' s' r').2.2
        rw [c] at p2
        exact p2
      · exact .inl c
    rcases some' with some' | none'
    · cases x with
      | lst xs =>
        refine .inl ⟨g, e, m, rl, so, ?_⟩
        rw [q]
        intro g' H' s' r' v hv
        obtain ⟨a, vs, rfl, na, ha, l, rr⟩ := hv
        exact ⟨a, rfl, ⟨vs, SqL.of ha⟩, (fin _ rfl s' r').2 _ (walks_lst na ha rr l)⟩
      | tup xs =>
        refine .inr (.inl ⟨g, e, m, rl, so, ?_⟩)
        rw [q]
        intro g' H' s' r' v hv
        obtain ⟨a, vs, rfl, ha, l, rr⟩ := hv
        exact ⟨a, rfl, ⟨vs, ha⟩, (fin _ rfl s' r').2 _ (walks_tup ha rr l)⟩
      | scr xs =>
        refine .inl ⟨g, e, m, rl, so, ?_⟩
        rw [q]
        intro g' H' s' r' v hv
        obtain ⟨a, rfl, ha, l⟩ := hv
        exact ⟨a, rfl, ⟨_, ha.sq⟩, (fin _ rfl s' r').2 _ (walks_scr ha l)⟩
      | str a =>
        refine .inr (.inr ⟨g, e, m, rl, so, ?_⟩)
        rw [q]
        intro g' H' s' r' v hv
        exact ⟨a, hv.1, (fin _ rfl s' r').2 _ (walks_str hv.2)⟩
      | hd n =>
        refine .inl ⟨g, e, m, rl, so, ?_⟩
        rw [q]
        intro g' H' s' r' v hv
        obtain ⟨a, rfl, ha⟩ := hv
        cases hc : m1[n]? with
        | none => exact absurd (show walkT (.hd n) m1 = none by simp only [walkT]; rw [hc]) some'
        | some c =>
          cases c with
          | lst xs =>
            obtain ⟨vs, k1, k2, k3⟩ := r'.cell n a _ ha hc
            exact ⟨a, rfl, ⟨vs, SqL.of k1⟩, (fin ⟨xs, some (.l n)⟩ (by simp only [walkT]; rw [hc]) s' r').2 _ (walks_hd ha k2)⟩
          | ins c xs => exact absurd (show walkT (.hd n) m1 = none by simp only [walkT]; rw [hc]) some'
          | dK kvs => exact absurd (show walkT (.hd n) m1 = none by simp only [walkT]; rw [hc]) some'
          | tab _ _ => exact absurd (show walkT (.hd n) m1 = none by simp only [walkT]; rw [hc]) some'
      | _ => exact absurd rfl some'
    · refine .inl ⟨g, e, m, rl, so, ?_⟩
      rw [q]
      exact fun g' H' s' r' => absurd r' (none' g' H' s')
theorem ba_one {S : Sg} {f : Sl → Sto → Rs T} {σ : L2.St} {H : Hp} {Q : List V → Hp → Prop} {g : Gh} {e : Sl} {m : Sto} {β : Type} {R : Gh → Hp → β → Sto → Prop} {k : T → Sto → Rs β}
    (rl : Rel S g m H) (so : slotsOk S z g H e σ) (p : Po S g H R (fun c d H' => W c d σ H') ((f e m).bind k))
    (h : ∀ g1 H1 x m1 v, Rel S g1 m1 H1 → slotsOk S z g1 H1 e σ → Stp g H g1 H1 → rep S g1 H1 x v → Po S g1 H1 R (fun c d H' => W c d σ H') (k x m1) → Q [v] H1) : tCons (lift S z W f) tNil σ H Q :=
  lift_go rl so p fun g1 H1 x m1 v r1 so1 s1 hv p1 => h g1 H1 x m1 v r1 so1 s1 hv p1
theorem bi_rng1 {tg a : Expr} {f : Sl → Sto → Rs T} {p pos : Pos} (hg : Gl X "range") (hm : X.mg "range" = none) (hs : ∀ x p, a ≠ .Starred x p) (h : BE X tab z W a f) :
    BI' X tab z W tg (.Call (.Name "range" p) [a] [] pos) (fun e m => (f e m).bind fun x m1 => match x with | .int j => if bnd62 j ∧ j ≤ 16777216 then .ok ⟨rngL 0 j, none⟩ m1 else .bad | _ => .bad) := by
  refine pi_w (pi_range1 hg hm (pa_cons h pa_nil (star_of hs)) (star_of hs)) fun σ H R ⟨g, e, m, rl, so, q⟩ => ?_
  refine ba_one rl so q fun g1 H1 x m1 v r1 so1 s1 hv p1 => ?_
  split at p1
  · rename_i j
    split at p1
    · rename_i c
      obtain rfl : v = .int j := hv
      refine ⟨j, rfl, c.1.1, c.1.2, ?_⟩
      have w := walks_rng (S := sg X tab) (g := g1) (H := H1) (lo := 0) (hi := j) (by omega)
      rw [Int.sub_zero] at w
      exact (p1 g1 H1 (Stp.refl _ _) r1).2 _ w
    · exact p1.elim
  · exact p1.elim
theorem bi_rng2 {tg a b : Expr} {f f' : Sl → Sto → Rs T} {p pos : Pos} (hg : Gl X "range") (hm : X.mg "range" = none) (hs : ∀ x p, a ≠ .Starred x p) (hs' : ∀ x p, b ≠ .Starred x p) (h : BE X tab z W a f) (h' : BE X tab z W b f') :
    BI' X tab z W tg (.Call (.Name "range" p) [a, b] [] pos) (fun e m => (f e m).bind fun x m1 => (f' e m1).bind fun y m2 => match x, y with | .int i, .int j => if bnd62 i ∧ bnd62 j ∧ j - i ≤ 16777216 then .ok ⟨rngL i j, none⟩ m2 else .bad | _, _ => .bad) := by
  refine pi_w (pi_range2 hg hm (pa_cons h (pa_cons h' pa_nil (star_of hs')) (star_of hs)) (by rw [star_of hs, star_of hs']; rfl) (star_of hs')) fun σ H R ⟨g, e, m, rl, so, q⟩ => ?_
  refine lift_go rl so q fun g1 H1 x m1 v r1 so1 s1 hv p1 => ?_
  refine lift_go r1 so1 p1 fun g2 H2 y m2 u r2 so2 s2 hu p2 => ?_
  split at p2
  · rename_i i j
    split at p2
    · rename_i c
      obtain rfl : v = .int i := hv
      obtain rfl : u = .int j := hu
      exact ⟨i, j, rfl, ⟨c.1.1, c.1.2, c.2.1.1, c.2.1.2⟩, (p2 g2 H2 (Stp.refl _ _) r2).2 _ (walks_rng c.2.2)⟩
    · exact p2.elim
  · exact p2.elim
theorem bi_rng3 {tg a b c : Expr} {f f' f'' : Sl → Sto → Rs T} {p pos : Pos} (hg : Gl X "range") (hm : X.mg "range" = none) (hs : ∀ x p, a ≠ .Starred x p) (hs' : ∀ x p, b ≠ .Starred x p) (hs'' : ∀ x p, c ≠ .Starred x p)
    (h : BE X tab z W a f) (h' : BE X tab z W b f') (h'' : BE X tab z W c f'') :
    BI' X tab z W tg (.Call (.Name "range" p) [a, b, c] [] pos) (fun e m => (f e m).bind fun x m1 => (f' e m1).bind fun y m2 => (f'' e m2).bind fun w m3 => match x, y, w with | .int i, .int j, .int c => if rngOk i j c = true then .ok ⟨rngC i j c, none⟩ m3 else .bad | _, _, _ => .bad) := by
  refine pi_w (pi_range3 hg hm (pa_cons h (pa_cons h' (pa_cons h'' pa_nil (star_of hs'')) (star_of hs')) (star_of hs)) (star_of hs) (by rw [star_of hs', star_of hs'']; rfl)) fun σ H R ⟨g, e, m, rl, so, q⟩ => ?_
  refine lift_go rl so q fun g1 H1 x m1 v r1 so1 s1 hv p1 => ?_
  refine lift_go r1 so1 p1 fun g2 H2 y m2 u r2 so2 s2 hu p2 => ?_
  refine lift_go r2 so2 p2 fun g3 H3 w m3 t r3 so3 s3 ht p3 => ?_
  split at p3
  · rename_i i j c
    split at p3
    · rename_i ok
      obtain rfl : v = .int i := hv
      obtain rfl : u = .int j := hu
      obtain rfl : t = .int c := ht
      unfold rngOk at ok
      simp only [Bool.and_eq_true, decide_eq_true_eq] at ok
      exact ⟨i, j, c, _, rfl, ⟨ok.1.1.1.1, ok.1.1.1.2, ok.1.1.2, (Int.toNat_of_nonneg ok.1.2).symm⟩, (p3 g3 H3 (Stp.refl _ _) r3).2 _ (walks_rngC ok.2)⟩
    · exact p3.elim
  · exact p3.elim
theorem bi_enm {a : Expr} {elts : List Expr} {kk : Nat} {f : Sl → Sto → Rs T} {p pos tpos : Pos} (hg : Gl X "enumerate") (hm : X.mg "enumerate" = none) (hs : ∀ x p, a ≠ .Starred x p) (h : BE X tab z W a f) :
    BI' X tab z W (.Tuple elts kk tpos) (.Call (.Name "enumerate" p) [a] [] pos) (fun e m => (f e m).bind fun x m1 => match x with | .lst xs => .ok ⟨enmL 0 xs, none⟩ m1 | .hd n => (match m1[n]? with | some (.lst xs) => .ok ⟨enmL 0 xs, some (.e n)⟩ m1 | _ => .bad) | _ => .bad) := by
  refine pi_w (pi_enum hg hm (pa_cons h pa_nil (star_of hs)) (star_of hs)) fun σ H R ⟨g, e, m, rl, so, q⟩ => ?_
  refine ba_one rl so q fun g1 H1 x m1 v r1 so1 s1 hv p1 => ?_
  split at p1
  · rename_i xs
    obtain ⟨a, vs, rfl, na, ha, l, rr⟩ := hv
    exact ⟨a, vs, rfl, SqL.of ha, (p1 g1 H1 (Stp.refl _ _) r1).2 _ (walks_enm na ha rr l)⟩
  · rename_i n
    obtain ⟨a, rfl, ha⟩ := hv
    split at p1
    · rename_i xs hc
      obtain ⟨vs, k1, k2, k3⟩ := r1.cell n a _ ha hc
      exact ⟨a, vs, rfl, SqL.of k1, (p1 g1 H1 (Stp.refl _ _) r1).2 _ (walks_enmh ha k2)⟩
    · exact p1.elim
  · exact p1.elim
theorem bi_zip {a b : Expr} {elts : List Expr} {kk : Nat} {f f' : Sl → Sto → Rs T} {p pos tpos : Pos} (hg : Gl X "zip") (hm : X.mg "zip" = none) (hs : ∀ x p, a ≠ .Starred x p) (hs' : ∀ x p, b ≠ .Starred x p) (h : BE X tab z W a f) (h' : BE X tab z W b f') :
    BI' X tab z W (.Tuple elts kk tpos) (.Call (.Name "zip" p) [a, b] [] pos) (fun e m => (f e m).bind fun x m1 => (f' e m1).bind fun y m2 => match x, y with | .lst xs, .lst ys => .ok ⟨zipL xs ys, none⟩ m2 | .hd n, .lst ys => (match m2[n]? with | some (.lst xs) => .ok ⟨zipL xs ys, some (.z n ys)⟩ m2 | _ => .bad) | _, _ => .bad) := by
  refine pi_w (pi_zip hg hm (pa_cons h (pa_cons h' pa_nil (star_of hs')) (star_of hs)) (star_of hs) (by rw [star_of hs']; rfl)) fun σ H R ⟨g, e, m, rl, so, q⟩ => ?_
  refine lift_go rl so q fun g1 H1 x m1 v r1 so1 s1 hv p1 => ?_
  refine lift_go r1 so1 p1 fun g2 H2 y m2 u r2 so2 s2 hu p2 => ?_
  split at p2
  · rename_i xs ys
    obtain ⟨a, vs, rfl, na, ha, l, rr⟩ := rep_mono s2 _ _ hv
    obtain ⟨b, ws, rfl, nb, hb, l', rr'⟩ := hu
    exact ⟨a, b, vs, ws, rfl, SqL.of ha, SqL.of hb, (p2 g2 H2 (Stp.refl _ _) r2).2 _ (walks_zip na ha rr nb hb rr' l)⟩
  · rename_i n ys
    obtain ⟨a, rfl, ha⟩ := hv
    obtain ⟨b, ws, rfl, nb, hb, l', rr'⟩ := hu
    have ha2 := s2.at ha
    split at p2
    · rename_i xs hc
      obtain ⟨vs, k1, k2, k3⟩ := r2.cell n a _ ha2 hc
      exact ⟨a, b, vs, ws, rfl, SqL.of k1, SqL.of hb, (p2 g2 H2 (Stp.refl _ _) r2).2 _ (walks_ziph ha2 nb hb rr' l')⟩
    · exact p2.elim
  · exact p2.elim
/-! ### loops -/
theorem liftI_st {S : Sg} {f : Sl → Sto → Rs Wk} {σ : L2.St} {H : Hp} {R : It → Hp → Prop} {D : Ends} {g : Gh} {e : Sl} {m : Sto} {k : Wk → Sto → RS}
    (rl : Rel S g m H) (so : slotsOk S z g H e σ) (p : PoS S z g H D W ((f e m).st e k)) (hst : ∀ w m', f e m = .ok w m' → stands w m')
    (h : ∀ g1 H1 w m1 J, Rel S g1 m1 H1 → slotsOk S z g1 H1 e σ → stands w m1 → Walks S g1 H1 J w → PoS S z g1 H1 D W (k w m1) → R J H1) : liftI S z W f σ H R :=
  ⟨g, e, m, rl, so, Po.imp (PoS.st so p) fun g1 H1 w m1 s1 r1 q => ⟨hst w m1 q.2.1, fun J hJ => h g1 H1 w m1 J r1 (slots_mono s1 so) (hst w m1 q.2.1) hJ q.2.2⟩⟩
theorem guardS_ok {S : Sg} {g : Gh} {H : Hp} {D : Ends} {w : Wk} {r : RS} {k : RS → RS} (hk : k .bad = .bad) (h : PoS S z g H D W (k (guardS w r))) : (∀ e m, r = .nx e m → stands w m) ∧ (∀ e m, r = .ct e m → stands w m) ∧ PoS S z g H D W (k r) := by
  refine ⟨fun e m q => ?_, fun e m q => ?_, ?_⟩
  · subst q
    by_cases c : stands w m
    · exact c
    · have e : guardS w (.nx e m) = .bad := by simp [guardS, c]
      rw [e, hk] at h
      exact h.elim
  · subst q
    by_cases c : stands w m
    · exact c
    · have e : guardS w (.ct e m) = .bad := by simp [guardS, c]
      rw [e, hk] at h
      exact h.elim
  · cases r with
    | nx e m =>
      by_cases c : stands w m
      · have e : guardS w (.nx e m) = .nx e m := by simp [guardS, c]
        rw [e] at h
        exact h
      · have e : guardS w (.nx e m) = .bad := by simp [guardS, c]
        rw [e, hk] at h
        exact h.elim
    | ct e m =>
      by_cases c : stands w m
      · have e : guardS w (.ct e m) = .ct e m := by simp [guardS, c]
        rw [e] at h
        exact h
      · have e : guardS w (.ct e m) = .bad := by simp [guardS, c]
        rw [e, hk] at h
        exact h.elim
    | _ => exact h
theorem bs_for {tg it : Expr} {body : List Stmt} {t : Tg} {G : TG} {fi : Sl → Sto → Rs Wk} {fb : Sl → Sto → RS} {st : Stmt} (hT : TgOk (sg X tab) z t G) (hst : ∀ e m w m', fi e m = .ok w m' → stands w m')
    (h : PS X st (tFor (liftI (sg X tab) z W fi) G (liftS (sg X tab) z W fb))) :
    BS X tab z W st (fun e m => (fi e m).st e fun w m1 => forL (fun x e' m2 => guardS w (match bindT t x e' with | some e2 => fb e2 m2 | none => .bad)) w.xs e m1) := by
  refine ps_w h fun D σ H ⟨g, e, m, rl, so, p⟩ => ?_
  refine liftI_st rl so p (hst e m) fun g1 H1 w m1 J r1 so1 st1 hJ p1 => ?_
  refine ⟨fun i n σ' H' => n = w.xs.length - i ∧ i ≤ w.xs.length ∧ ∃ g' e' m', Stp g1 H1 g' H' ∧ Rel (sg X tab) g' m' H' ∧ stands w m' ∧ slotsOk (sg X tab) z g' H' e' σ' ∧
    PoS (sg X tab) z g' H' D W (forL (fun x e' m2 => guardS w (match bindT t x e' with | some e2 => fb e2 m2 | none => .bad)) (w.xs.drop i) e' m'),
    ⟨_, rfl, Nat.zero_le _, g1, e, m1, Stp.refl _ _, r1, st1, so1, p1⟩, ?_⟩
  rintro i n σ' H' ⟨rfl, hi, g', e', m', s', r', st', so', p'⟩
  by_cases hlt : i < w.xs.length
  · rw [List.drop_eq_getElem_cons hlt] at p'
    unfold forL at p'
    have hx : w.xs[i]? = some w.xs[i] := by simp [hlt]
    obtain ⟨go, yl⟩ := hJ.go g' m' H' i _ s' r' st' hx
    refine .inr ⟨go, fun σ2 H2 => w.xs.length - (i + 1) = w.xs.length - (i + 1) ∧ i + 1 ≤ w.xs.length ∧ ∃ g' e' m', Stp g1 H1 g' H2 ∧ Rel (sg X tab) g' m' H2 ∧ stands w m' ∧ slotsOk (sg X tab) z g' H2 e' σ2 ∧
      PoS (sg X tab) z g' H2 D W (forL (fun x e' m2 => guardS w (match bindT t x e' with | some e2 => fb e2 m2 | none => .bad)) (w.xs.drop (i + 1)) e' m'), fun σ2 H2 q => ⟨_, by omega, q⟩, fun x H'' y => ?_⟩
    obtain ⟨ex, rx⟩ := yl x H'' y
    have p2 := guardS_ok (k := fun r => match r with
      | .nx e' m' => forL (fun x e' m2 => guardS w (match bindT t x e' with | some e2 => fb e2 m2 | none => .bad)) (w.xs.drop (i + 1)) e' m'
      | .ct e' m' => forL (fun x e' m2 => guardS w (match bindT t x e' with | some e2 => fb e2 m2 | none => .bad)) (w.xs.drop (i + 1)) e' m'
      | .bk e' m' => .nx e' m'
      | r => r) rfl p'
    obtain ⟨g1', g2', p3⟩ := p2
    cases hb : bindT t w.xs[i] e' with
    | none => rw [hb] at p3; exact p3.elim
    | some e2 =>
      rw [hb] at p3 g1' g2'
      dsimp only at p3 g1' g2'
      have se := Stp.ext (g := g') ex
      refine hT g' m' H'' e' e2 σ' _ x _ (r'.ext ex) (slots_mono se so') rx hb fun σ2 so2 => ⟨g', e2, m', r'.ext ex, so2, ?_⟩
      have p4 := PoS.later se p3
      cases hr : fb e2 m' with
      | nx e3 m3 =>
        rw [hr] at p4
        exact fun g3 H3 σ3 s3 r3 so3 => ⟨rfl, hlt, g3, e3, m3, (s'.trans se).trans s3, r3, g1' e3 m3 hr, so3, PoS.later s3 p4⟩
      | ct e3 m3 =>
        rw [hr] at p4
        exact fun g3 H3 σ3 s3 r3 so3 => ⟨rfl, hlt, g3, e3, m3, (s'.trans se).trans s3, r3, g2' e3 m3 hr, so3, PoS.later s3 p4⟩
      | bk e3 m3 => rw [hr] at p4; exact p4
      | rt u m3 => rw [hr] at p4; exact p4
      | exc c xs e3 m3 => rw [hr] at p4; exact p4
      | bad => rw [hr] at p4; exact p4
  · have e0 : i = w.xs.length := by omega
    subst e0
    rw [List.drop_length] at p'
    exact .inl ⟨hJ.stop g' m' H' s' r' st', p'.nx r' so'⟩
theorem bs_whl {c : Expr} {body : List Stmt} {n : Nat} {fc : Sl → Sto → Rs T} {fb : Sl → Sto → RS} {pos : Pos} (hp : PassesOwn (model X.prog X.w) X.A X.env X.xe) (hc : BT X tab z W c fc) (hb : BSs X tab z W body fb) :
    BS X tab z W (.While c body [] pos) (fun e m => whlL fc fb n e m) := by
  refine ps_w (ps_while hp hc hb) fun D σ H ⟨g, e, m, rl, so, p⟩ => ?_
  refine ⟨fun k σ' H' => ∃ g' e' m', Rel (sg X tab) g' m' H' ∧ slotsOk (sg X tab) z g' H' e' σ' ∧ PoS (sg X tab) z g' H' D W (whlL fc fb k e' m'), ⟨n, g, e, m, rl, so, p⟩, ?_⟩
  rintro k σ' H' ⟨g', e', m', r', so', p'⟩
  cases k with
  | zero => exact p'.elim
  | succ k =>
    unfold whlL at p'
    refine liftT_st r' so' p' (fun t m' n => ?_) fun g1 H1 b m1 r1 so1 s1 p1 => ?_
    · cases t <;> first | rfl | exact absurd rfl (n _)
    · cases b with
      | false => exact p1.nx r1 so1
      | true =>
        refine ⟨fun σ2 H2 => ∃ g' e' m', Rel (sg X tab) g' m' H2 ∧ slotsOk (sg X tab) z g' H2 e' σ2 ∧ PoS (sg X tab) z g' H2 D W (whlL fc fb k e' m'), fun σ2 H2 q => ⟨k, Nat.lt_succ_self k, q⟩, g1, e', m1, r1, so1, ?_⟩
        dsimp only at p1
        cases hr : fb e' m1 with
        | nx e3 m3 => rw [hr] at p1; exact fun g3 H3 σ3 s3 r3 so3 => ⟨g3, e3, m3, r3, so3, PoS.later s3 p1⟩
        | ct e3 m3 => rw [hr] at p1; exact fun g3 H3 σ3 s3 r3 so3 => ⟨g3, e3, m3, r3, so3, PoS.later s3 p1⟩
        | bk e3 m3 => rw [hr] at p1; exact p1
        | rt u m3 => rw [hr] at p1; exact p1
        | exc c xs e3 m3 => rw [hr] at p1; exact p1
        | bad => rw [hr] at p1; exact p1
end
end BV
/-! comprehensions -/
namespace BV
open PySem PySem.Spec L2
section
variable {X : Cx} {tab : List (Str × List Str)} {z : Option Xz} {W : WX}
/-- one more thing that may change: not a handle -/
def addD (g : Gh) (D : Addr) : Gh := ⟨fun a => g.A a ∨ a = D, g.ph, fun a h => .inl (g.sub a h)⟩
/-- it goes -/
def subD (g : Gh) (D : Addr) (h : D ∉ g.ph) : Gh := ⟨fun a => g.A a ∧ a ≠ D, g.ph, fun a q => ⟨g.sub a q, fun z => h (by rw [← z]; exact q)⟩⟩
mutual
theorem rep_less {S : Sg} {g g' : Gh} {H : Hp} (hA : ∀ a, g'.A a → g.A a) (hp : g'.ph = g.ph) : ∀ (t : T) (v : V), rep S g H t v → rep S g' H t v
  | .non, _, h => h
  | .bl _, _, h => h
  | .int _, _, h => h
  | .str _, _, h => h
  | .ty _, _, h => h
  | .lst xs, v, h => by
    obtain ⟨a, vs, e, na, ha, l, r⟩ := h
    exact ⟨a, vs, e, fun z => na (hA a z), ha, l, reps_less hA hp xs vs r⟩
  | .tup xs, v, h => by
    obtain ⟨a, vs, e, q, l, r⟩ := h
    exact ⟨a, vs, e, q, l, reps_less hA hp xs vs r⟩
  | .obj c xs, v, h => by
    obtain ⟨a, C, dx, fvs, n, ks, e, na, ht', hm, ha, hk, r⟩ := h
    exact ⟨a, C, dx, fvs, n, ks, e, fun z => na (hA a z), ht', hm, ha, hk, reps_less hA hp xs _ r⟩
  | .hd n, v, h => by
    obtain ⟨a, e, q⟩ := h
    exact ⟨a, e, by rw [hp]; exact q⟩
  | .scr xs, v, h => by
    obtain ⟨a, e, ha, l⟩ := h
    exact ⟨a, e, SqA.less ha hA (fun _ _ h => h) fun _ _ h => h, l⟩
  | .exn _ _, _, h => h
  | .fn (some _), _, h => h
  | .fn none, _, h => by
    obtain ⟨a, e, q⟩ := h
    exact ⟨a, e, FnN.less q hA fun _ _ _ h => h⟩
theorem reps_less {S : Sg} {g g' : Gh} {H : Hp} (hA : ∀ a, g'.A a → g.A a) (hp : g'.ph = g.ph) : ∀ (xs : List T) (vs : List V), reps S g H xs vs → reps S g' H xs vs
  | [], _, h => h
  | x :: xs, _, h => by
    obtain ⟨v, r, e, h1, h2⟩ := h
    exact ⟨v, r, e, rep_less hA hp x v h1, reps_less hA hp xs r h2⟩
end
theorem rel_less {S : Sg} {g g' : Gh} {m : Sto} {H : Hp} (rl : Rel S g m H) (hA : ∀ a, g'.A a → g.A a) (hp : g'.ph = g.ph) : Rel S g' m H := by
  refine ⟨by rw [hp]; exact rl.len, by rw [hp]; exact rl.nd, fun a h => rl.has a (hA a h), fun n a c h1 h2 => ?_⟩
  have h := rl.cell n a c (by rw [← hp]; exact h1) h2
  cases c with
  | lst xs =>
    obtain ⟨vs, q, l, r⟩ := h
    exact ⟨vs, q, l, reps_less hA hp _ _ r⟩
  | ins c xs =>
    obtain ⟨C, dx, fvs, n, ks, h1, h2, h3, h4, h5⟩ := h
    exact ⟨C, dx, fvs, n, ks, h1, h2, h3, h4, reps_less hA hp _ _ h5⟩
  | dK kvs =>
    obtain ⟨us, q, l, k, r⟩ := h
    exact ⟨us, q, l, k, reps_less hA hp _ _ r⟩
  | tab x q =>
    obtain ⟨q1, q2⟩ := h
    exact ⟨q1, q2.less hA (fun _ h => h) fun _ _ _ h => h⟩
/-- the list that is being made turns: nothing that is told leans on it -/
theorem stp_D {g : Gh} {H : Hp} {D : Addr} {vs ws : List V} (hA : g.A D) (hD : H D = some (.lst vs)) : ∀ (S : Sg), (∀ t v, rep S g H t v → rep S g (upd H D (.lst ws)) t v) ∧ ∀ xs us, reps S g H xs us → reps S g (upd H D (.lst ws)) xs us := by
  intro S
  have ne : ∀ a, ¬ g.A a → a ≠ D := fun a n z => n (by rw [z]; exact hA)
  have tq : ∀ a xs, SqT S.K H a xs → SqT S.K (upd H D (.lst ws)) a xs := fun a xs h => by
    rcases h with (h | ⟨o, h⟩) | h
    · exact .inl (.inl (by rw [upd_ne (fun e => by rw [e, hD] at h; cases h)]; exact h))
    · exact .inl (.inr ⟨o, by rw [upd_ne (fun e => by rw [e, hD] at h; cases h)]; exact h⟩)
    · exact .inr h
  have key : (∀ (t : T) (v : V), rep S g H t v → rep S g (upd H D (.lst ws)) t v) := by
    intro t
    induction t using T.rec (motive_2 := fun xs => ∀ vs, reps S g H xs vs → reps S g (upd H D (.lst ws)) xs vs) with
    | non => exact fun _ h => h
    | bl _ => exact fun _ h => h
    | int _ => exact fun _ h => h
    | str _ => exact fun _ h => h
    | ty _ => exact fun _ h => h
    | hd _ => exact fun _ h => h
    | exn _ _ _ => exact fun _ h => h
    | fn x =>
      intro v h
      cases x with
      | some x => exact h
      | none =>
        obtain ⟨a, e, q⟩ := h
        exact ⟨a, e, FnN.less q (fun _ h => h) fun b o n h => by rw [upd_ne (ne b n)]; exact h⟩
    | lst xs ih =>
      intro v h
      obtain ⟨a, vs, e, na, ha, l, r⟩ := h
      exact ⟨a, vs, e, na, by rw [upd_ne (ne a na)]; exact ha, l, ih _ r⟩
    | tup xs ih =>
      intro v h
      obtain ⟨a, vs, e, q, l, r⟩ := h
      exact ⟨a, vs, e, tq a vs q, l, ih _ r⟩
    | obj c xs ih =>
      intro v h
      obtain ⟨a, C, dx, fvs, n, ks, e, na, ht', hm, ha, hk, r⟩ := h
      exact ⟨a, C, dx, fvs, n, ks, e, na, ht', hm, by rw [upd_ne (ne a na)]; exact ha, hk, ih _ r⟩
    | scr xs =>
      intro v h
      obtain ⟨a, e, ha, l⟩ := h
      exact ⟨a, e, SqA.less ha (fun _ h => h) (fun o u h => by rw [upd_ne (fun e => by rw [e, hD] at h; cases h)]; exact h) fun o n h => by rw [upd_ne (ne a n)]; exact h, l⟩
    | nil => rename_i vs' h; exact h
    | cons x xs ih1 ih2 =>
      rename_i vs' h
      obtain ⟨v, r, e, h1, h2⟩ := h
      exact ⟨v, r, e, ih1 _ h1, ih2 _ h2⟩
  refine ⟨key, fun xs => ?_⟩
  induction xs with
  | nil => exact fun _ h => h
  | cons x xs ih =>
    intro us h
    obtain ⟨v, r, e, h1, h2⟩ := h
    exact ⟨v, r, e, key _ _ h1, ih _ h2⟩
theorem rel_D {S : Sg} {g : Gh} {m : Sto} {H : Hp} {D : Addr} {vs ws : List V} (rl : Rel S g m H) (hA : g.A D) (hn : D ∉ g.ph) (hD : H D = some (.lst vs)) : Rel S g m (upd H D (.lst ws)) := by
  obtain ⟨k1, k2⟩ := stp_D (ws := ws) hA hD S
  refine ⟨rl.len, rl.nd, fun a h => ?_, fun n a c h1 h2 => ?_⟩
  · by_cases e : a = D
    · rw [e, upd_same]; exact fun z => nomatch z
    · rw [upd_ne e]; exact rl.has a h
  · have ne : a ≠ D := fun e => hn (by rw [← e]; exact List.mem_of_getElem? h1)
    have h := rl.cell n a c h1 h2
    cases c with
    | lst xs =>
      obtain ⟨us, q, l, r⟩ := h
      exact ⟨us, by rw [upd_ne ne]; exact q, l, k2 _ _ r⟩
    | ins c xs =>
      obtain ⟨C, dx, fvs, n, ks, h1, h2, h3, h4, h5⟩ := h
      exact ⟨C, dx, fvs, n, ks, h1, h2, by rw [upd_ne ne]; exact h3, h4, k2 _ _ h5⟩
    | dK kvs =>
      obtain ⟨us, q, l, k, r⟩ := h
      exact ⟨us, by rw [upd_ne ne]; exact q, l, k, k2 _ _ r⟩
    | tab x q =>
      obtain ⟨q1, q2⟩ := h
      exact ⟨q1, q2.less (fun _ h => h) (fun o h => by rw [upd_ne ne]; exact h) fun b o n h => by rw [upd_ne (fun z => n (by rw [z]; exact hA))]; exact h⟩
/-- a target in a comprehension's block -/
def TgC (S : Sg) (z : Option Xz) (t : Tg) (vs : List Nat) (G : TG) : Prop := ∀ (g : Gh) (m : Sto) (H : Hp) (e e' : Sl) (σ : L2.St) (u : T) (v : V) (K : L2.St → Hp → Prop), Rel S g m H → slotsOk S z g H e σ → rep S g H u v → bindT t u e = some e' →
  (∀ σ', slotsOk S z g H e' σ' → wipe σ' vs = wipe σ vs → K σ' H) → G v (wipe σ vs) H K
theorem wipe_set {σ : L2.St} {i : Nat} {v : Option V} : ∀ {vs : List Nat}, i ∈ vs → wipe (σ.set i v) vs = wipe σ vs
  | [], h => by cases h
  | j :: vs, h => by
    unfold wipe
    by_cases hj : i ∈ vs
    · rw [wipe_set hj]
    · have e : i = j := by
        rcases List.mem_cons.mp h with h | h
        · exact h
        · exact absurd h hj
      subst e
      have c : ∀ (vs : List Nat) (σ : L2.St) (v : Option V), i ∉ vs → wipe (σ.set i v) vs = (wipe σ vs).set i v := by
        intro vs
        induction vs with
        | nil => intro σ v _; rfl
        | cons k ks ih =>
          intro σ v hk
          unfold wipe
          rw [ih σ v (fun q => hk (List.mem_cons_of_mem _ q)), List.set_comm]
          exact fun q => hk (by rw [q]; exact List.mem_cons_self)
      rw [c vs σ v hj, List.set_set]
theorem wipe_wipe {σ : L2.St} : ∀ {vs ws : List Nat}, (∀ i ∈ ws, i ∈ vs) → wipe (wipe σ ws) vs = wipe σ vs
  | vs, [], _ => rfl
  | vs, w :: ws, h => by
    show wipe ((wipe σ ws).set w none) vs = _
    rw [wipe_set (h w List.mem_cons_self)]
    exact wipe_wipe fun i hi => h i (List.mem_cons_of_mem _ hi)
/-- slots that aren't wiped -/
theorem wipe_get {σ : L2.St} : ∀ {vs : List Nat} {i : Nat}, i ∉ vs → (wipe σ vs)[i]? = σ[i]?
  | [], _, _ => rfl
  | j :: vs, i, h => by
    unfold wipe
    rw [List.getElem?_set_ne (fun e => h (by rw [← e]; exact List.mem_cons_self))]
    exact wipe_get fun q => h (List.mem_cons_of_mem _ q)
theorem tgc_one {S : Sg} {i : Nat} (hz : ∀ x, z = some x → x.i ≠ i) : TgC S z (.one i) [i] (gName i) := by
  intro g m H e e' σ t v K rl so r hb k
  obtain rfl : e.set i (some t) = e' := Option.some.inj hb
  have e1 : (wipe σ [i]).set i (some v) = σ.set i (some v) := by
    show (σ.set i none).set i (some v) = _
    rw [List.set_set]
  show K ((wipe σ [i]).set i (some v)) H
  rw [e1]
  exact k _ (slots_set so r hz) (wipe_set List.mem_cons_self)
theorem setN_wipe {S : Sg} {g : Gh} {H : Hp} : ∀ {is : List Nat} {e e' : Sl} {σ σ0 : L2.St} {ts : List T} {vs : List V} {K : L2.St → Hp → Prop} (all : List Nat), (∀ i ∈ is, i ∈ all) → is.Nodup → (∀ i ∈ is, ∀ x, z = some x → x.i ≠ i) →
    (e.length = σ.length ∧ (∀ (i : Nat) (t : T), i ∉ is → e[i]? = some (some t) → ∃ v, σ[i]? = some (some v) ∧ rep S g H t v) ∧ ∀ x, z = some x → ∀ c xs, e[x.i]? = some (some (.exn c xs)) → σ[x.i]? = some (some (.ref x.a)) ∧ repX S g H c xs x.cls x.d) →
    wipe σ all = wipe σ0 all → reps S g H ts vs → bindN is ts e = some e' → (∀ σ', slotsOk S z g H e' σ' → wipe σ' all = wipe σ0 all → K σ' H) → gSlots is vs σ H K
  | [], e, e', σ, σ0, [], vs, K, all, _, _, hz, so, ew, r, hb, k => by
    obtain rfl : e = e' := Option.some.inj hb
    exact ⟨r, k σ ⟨so.1, fun i t q => so.2.1 i t (by simp) q, so.2.2⟩ ew⟩
  | i :: is, e, e', σ, σ0, t :: ts, vs, K, all, hall, nd, hz, so, ew, r, hb, k => by
    obtain ⟨v, r', rfl, h1, h2⟩ := r
    obtain ⟨nd1, nd2⟩ := List.nodup_cons.mp nd
    refine ⟨v, r', rfl, setN_wipe all (fun j hj => hall j (List.mem_cons_of_mem _ hj)) nd2 (fun j hj => hz j (List.mem_cons_of_mem _ hj)) ⟨by rw [List.length_set, List.length_set]; exact so.1, fun j u hj q => ?_, fun x hx c xs q => ?_⟩
      (by rw [wipe_set (hall i List.mem_cons_self)]; exact ew) h2 hb k⟩
    · by_cases e0 : i = j
      · subst e0
        by_cases hl : i < e.length
        · rw [List.getElem?_set_self hl] at q
          obtain rfl : t = u := Option.some.inj (Option.some.inj q)
          exact ⟨v, by rw [List.getElem?_set_self (by rw [← so.1]; exact hl)], h1⟩
        · rw [List.getElem?_eq_none (by rw [List.length_set]; omega)] at q
          cases q
      · rw [List.getElem?_set_ne e0] at q
        obtain ⟨w, w1, w2⟩ := so.2.1 j u (fun q => (List.mem_cons.mp q).elim (fun z => e0 z.symm) hj) q
        exact ⟨w, by rw [List.getElem?_set_ne e0]; exact w1, w2⟩
    · have ne := (hz i List.mem_cons_self x hx).symm
      rw [List.getElem?_set_ne ne] at q
      obtain ⟨w1, w2⟩ := so.2.2 x hx c xs q
      exact ⟨by rw [List.getElem?_set_ne ne]; exact w1, w2⟩
  | [], _, _, _, _, _ :: _, _, _, _, _, _, _, _, _, _, hb, _ => nomatch hb
  | _ :: _, _, _, _, _, [], _, _, _, _, _, _, _, _, _, hb, _ => nomatch hb
theorem tgc_many {S : Sg} {is : List Nat} (nd : is.Nodup) (hz : ∀ i ∈ is, ∀ x, z = some x → x.i ≠ i) : TgC S z (.many is) is (gSq S.K is.length (gSlots is)) := by
  intro g m H e e' σ t v K rl so r hb k
  cases t with
  | tup ts =>
    obtain ⟨a, vs, rfl, q, l, rr⟩ := r
    have hb' : bindN is ts e = some e' := hb
    refine .inl ⟨a, vs, rfl, q, by rw [reps_len rr, bindN_len hb'], setN_wipe (σ0 := σ) is (fun i h => h) nd hz ⟨by rw [wipe_length]; exact so.1, fun i t hi q => ?_, fun x hx c xs q => ?_⟩ (wipe_wipe fun i h => h) rr hb' k⟩
    · obtain ⟨w, w1, w2⟩ := so.2.1 i t q
      exact ⟨w, by rw [wipe_get hi]; exact w1, w2⟩
    · obtain ⟨w1, w2⟩ := so.2.2 x hx c xs q
      exact ⟨by rw [wipe_get (fun q => hz _ q x hx rfl)]; exact w1, w2⟩
  | lst ts =>
    obtain ⟨a, vs, rfl, na, q, l, rr⟩ := r
    have hb' : bindN is ts e = some e' := hb
    refine .inr ⟨a, vs, rfl, SqL.of q, by rw [reps_len rr, bindN_len hb'], setN_wipe (σ0 := σ) is (fun i h => h) nd hz ⟨by rw [wipe_length]; exact so.1, fun i t hi q => ?_, fun x hx c xs q => ?_⟩ (wipe_wipe fun i h => h) rr hb' k⟩
    · obtain ⟨w, w1, w2⟩ := so.2.1 i t q
      exact ⟨w, by rw [wipe_get hi]; exact w1, w2⟩
    · obtain ⟨w1, w2⟩ := so.2.2 x hx c xs q
      exact ⟨by rw [wipe_get (fun q => hz _ q x hx rfl)]; exact w1, w2⟩
  | _ => cases hb
abbrev W0 : WX := fun _ _ _ _ => False
def liftC (S : Sg) (z : Option Xz) (W : WX) (f : Sl → Sto → Rs Bool) : TT := fun σ H Q => ∃ g e m, Rel S g m H ∧ slotsOk S z g H e σ ∧ Po S g H (fun _ H' b _ => Q b H') (fun c d H' => W c d σ H') (f e m)
theorem guardC_ok {S : Sg} {g : Gh} {H : Hp} {α β : Type} {w : Wk} {r : Rs α} {k : α → Sto → Rs β} {R : Gh → Hp → β → Sto → Prop} {W' : Value → Option Addr → Hp → Prop} (h : Po S g H R W' ((guardC w r).nox.bind k)) : (∀ a m, r = .ok a m → stands w m) ∧ Po S g H R W' (r.nox.bind k) := by
  cases r with
  | ok a m =>
    by_cases c : stands w m
    · have e : guardC w (.ok a m) = .ok a m := by simp [guardC, c]
      rw [e] at h
      exact ⟨fun a' m' q => by cases q; exact c, h⟩
    · have e : guardC w (.ok a m) = .bad := by simp [guardC, c]
      rw [e] at h
      exact h.elim
  | exc c xs m => exact ⟨(fun _ _ q => nomatch q), h⟩
  | bad => exact h.elim
/-- the reading of a comprehension -/
theorem comp_use {t : Tg} {vs : List Nat} {G : TG} {fi : Sl → Sto → Rs Wk} {fc : Sl → Sto → Rs Bool} {fx : Sl → Sto → Rs T} {b : Bool} (hT : TgC (sg X tab) z t vs G) (hst : ∀ e m w m', fi e m = .ok w m' → stands w m') {σ : L2.St} {H : Hp} {Q : VK}
    (h : lift (sg X tab) z W (fun e m => mq b ((fi e m).bind fun w m1 => compL (fun u m2 => (guardC w (match bindT t u e with
      | none => .bad
      | some e' => (fc e' m2).bind fun k m3 => if k then (fx e' m3).bind fun v m4 => .ok (some v) m4 else .ok none m3)).nox) w.xs [] m1)) σ H Q) :
    tLc (liftI (sg X tab) z W fi) G (liftC (sg X tab) z W0 fc) (lift (sg X tab) z W0 fx) vs σ H Q := by
  obtain ⟨g, e, m, rl, so, p⟩ := h
  dsimp only at p
  rw [mq_bind] at p
  refine (show liftI (sg X tab) z W fi σ H _ from ⟨g, e, m, rl, so, Po.imp (Po.bind p) fun g1 H1 w m1 s1 r1 q => ⟨hst e m w m1 q.2.1, fun J hJ D hD => ?_⟩⟩)
  have st1 := hst e m w m1 q.2.1
  have lw := hJ.len
  have p1 := q.2.2
  have so1 := slots_mono s1 so
  generalize hf : (fun u m2 => (guardC w (match bindT t u e with
      | none => .bad
      | some e' => (fc e' m2).bind fun k m3 => if k then (fx e' m3).bind fun v m4 => .ok (some v) m4 else .ok none m3)).nox : T → Sto → Rs (Option T)) = f at p1
  have nD : ¬ g1.A D := r1.fresh hD
  have nph : D ∉ g1.ph := fun q => nD (g1.sub D q)
  -- the invariant
  refine ⟨fun i n H' => n = w.xs.length - i ∧ i ≤ w.xs.length ∧ ∃ g' m' acc av, Stp g1 H1 g' H' ∧ g'.A D ∧ D ∉ g'.ph ∧ H' D = some (.lst av) ∧ acc.length ≤ i ∧ Rel (sg X tab) g' m' H' ∧ stands w m' ∧ reps (sg X tab) g' H' acc av ∧
    PoT (sg X tab) g1 H1 Q (fun c d H' => W c d σ H') (mq b (compL f (w.xs.drop i) acc m')), ⟨_, rfl, Nat.zero_le _, addD g1 D, m1, [], [], ?_, .inr rfl, nph, upd_same, Nat.le_refl _, ?_, st1, rfl, p1⟩, ?_⟩
  · have ex := ext_upd (o := .lst []) hD
    refine ⟨⟨[], by simp [addD]⟩, fun a o h n => ⟨ex a o h, ⟨fun q => q.resolve_right fun z => ?_, .inl⟩⟩, (Stp.ext (g := g1) ex).hs, fun a xs h => ex a _ h, fun a o u h => ex a _ h, fun a h n => n⟩
    rw [z, hD] at h
    cases h
  · have ex := ext_upd (o := .lst []) hD
    have re := r1.ext ex
    refine ⟨re.len, re.nd, fun a h => ?_, fun n a c h1 h2 => ?_⟩
    · rcases h with h | h
      · exact re.has a h
      · rw [h, upd_same]; exact fun z => nomatch z
    · have st : Stp g1 H1 (addD g1 D) (upd H1 D (.lst [])) := by
        refine ⟨⟨[], by simp [addD]⟩, fun a o h n => ⟨ex a o h, ⟨fun q => q.resolve_right fun z => ?_, .inl⟩⟩, (Stp.ext (g := g1) ex).hs, fun a xs h => ex a _ h, fun a o u h => ex a _ h, fun a h n => n⟩
        rw [z, hD] at h
        cases h
      exact cell_mono st (fun o h => ex a o h) (r1.cell n a c h1 h2)
  · rintro i n H' ⟨rfl, hi, g', m', acc, av, s', aD, nD', hD', la, r', st', ra, p'⟩
    by_cases hlt : i < w.xs.length
    · rw [List.drop_eq_getElem_cons hlt] at p'
      unfold compL at p'
      have hx : w.xs[i]? = some w.xs[i] := by simp [hlt]
      -- the walk goes on, as from the ghost without D
      have hJ' := hJ.go
      obtain ⟨go, yl⟩ := hJ' g' m' H' i _ s' r' st' hx
      refine .inr ⟨go, fun H2 => w.xs.length - (i + 1) = w.xs.length - (i + 1) ∧ i + 1 ≤ w.xs.length ∧ ∃ g' m' acc av, Stp g1 H1 g' H2 ∧ g'.A D ∧ D ∉ g'.ph ∧ H2 D = some (.lst av) ∧ acc.length ≤ i + 1 ∧ Rel (sg X tab) g' m' H2 ∧ stands w m' ∧ reps (sg X tab) g' H2 acc av ∧
        PoT (sg X tab) g1 H1 Q (fun c d H' => W c d σ H') (mq b (compL f (w.xs.drop (i + 1)) acc m')), fun H2 q => ⟨_, by omega, q⟩, fun x H'' y => ?_⟩
      obtain ⟨ex, rx⟩ := yl x H'' y
      have se := Stp.ext (g := g') ex
      -- what one turn gives
      have turn : Po (sg X tab) g1 H1 (fun g' H' t _ => ∀ v, rep (sg X tab) g' H' t v → Q v H') (fun c d H' => W c d σ H') ((f w.xs[i] m').bind fun o m2 => mq b (match o with
          | none => compL f (w.xs.drop (i + 1)) acc m2
          | some t => compL f (w.xs.drop (i + 1)) (acc ++ [t]) m2)) := by rw [← mq_bind]; exact p'
      rw [← hf] at turn
      obtain ⟨gs, turn⟩ := guardC_ok turn
      rw [hf] at turn
      cases hb : bindT t w.xs[i] e with
      | none => rw [hb] at turn; exact turn.elim
      | some e2 =>
        rw [hb] at turn gs
        dsimp only at turn gs
        refine hT g' m' H'' e e2 σ _ x _ (r'.ext ex) (slots_mono (s'.trans se) so1) rx hb fun σ2 so2 ew => ⟨ew, ?_⟩
        -- the tests
        refine (show liftC (sg X tab) z W0 fc σ2 H'' _ from ⟨g', e2, m', r'.ext ex, so2, ?_⟩)
        cases qc : fc e2 m' with
        | bad => rw [qc] at turn; exact turn.elim
        | exc c xs m2 => rw [qc] at turn; exact turn.elim
        | ok k m2 =>
          rw [qc] at turn gs
          intro g2 H2 s2 r2
          cases k with
          | false =>
            refine ⟨rfl, hlt, g2, m2, acc, av, (s'.trans se).trans s2, ?_, ?_, ?_, Nat.le_succ_of_le la, r2, gs none m2 rfl, reps_mono (se.trans s2) _ _ ra, turn⟩
            · exact ((se.trans s2).kp D _ hD' nD').2.mpr aD
            · exact (se.trans s2).np D (some_ne hD') nD'
            · exact ((se.trans s2).kp D _ hD' nD').1
          | true =>
            refine (show lift (sg X tab) z W0 fx σ2 H2 _ from ⟨g2, e2, m2, r2, slots_mono s2 so2, ?_⟩)
            cases qx : fx e2 m2 with
            | bad =>
              simp only [bind_ok, if_pos, qx] at turn
              exact turn.elim
            | exc c xs m3 =>
              simp only [bind_ok, if_pos, qx] at turn
              exact turn.elim
            | ok u m3 =>
              simp only [bind_ok, if_pos, qx] at turn gs
              intro g3 H3 s3 r3 v hv
              have sx := (se.trans s2).trans s3
              have kD := sx.kp D _ hD' nD'
              have aD3 : g3.A D := kD.2.mpr aD
              have nD3 : D ∉ g3.ph := sx.np D (some_ne hD') nD'
              obtain ⟨k1, k2⟩ := stp_D (ws := av ++ [v]) aD3 kD.1 (sg X tab)
              refine ⟨av, kD.1, by rw [sizeL, reps_len ra]; omega, rfl, hlt, g3, m3, acc ++ [u], av ++ [v], ?_, aD3, nD3, upd_same, by rw [List.length_append]; exact Nat.succ_le_succ la, rel_D r3 aD3 nD3 kD.1, gs (some u) m3 rfl,
                k2 _ _ (reps_app (reps_mono sx _ _ ra) ⟨v, [], rfl, hv, rfl⟩), turn⟩
              have s4 := (s'.trans se).trans (s2.trans s3)
              refine ⟨s4.pre, fun a o h n => ?_, fun a h => ?_, fun a xs h => ?_, fun a o' u' h => ?_, s4.np⟩
              · have ne : a ≠ D := fun z => by rw [z, hD] at h; cases h
                rw [upd_ne ne]
                exact s4.kp a o h n
              · by_cases e0 : a = D
                · rw [e0, upd_same]; exact fun z => nomatch z
                · rw [upd_ne e0]; exact s4.hs a h
              · rw [upd_ne (fun z => by rw [z, hD] at h; cases h)]; exact s4.tp a xs h
              · rw [upd_ne (fun z => by rw [z, hD] at h; cases h)]; exact s4.fz a o' u' h
    · have e0 : i = w.xs.length := by omega
      subst e0
      rw [List.drop_length] at p'
      unfold compL at p'
      refine .inl ⟨hJ.stop g' m' H' s' r' st', ?_⟩
      have less : ∀ a, (subD g' D nD').A a → g'.A a := fun a h => h.1
      have rr := rel_less r' (g' := subD g' D nD') less rfl
      have s2 : Stp g1 H1 (subD g' D nD') H' := by
        refine ⟨s'.pre, fun a o h n => ⟨(s'.kp a o h n).1, ⟨fun q => (s'.kp a o h n).2.mp q.1, fun q => ⟨(s'.kp a o h n).2.mpr q, fun z => ?_⟩⟩⟩, s'.hs, s'.tp, s'.fz, s'.np⟩
        rw [z, hD] at h
        cases h
      have ra' := reps_less (g' := subD g' D nD') less rfl _ _ ra
      cases b with
      | false => exact p' (subD g' D nD') H' s2 rr (.ref D) ⟨D, av, rfl, fun q => q.2 rfl, hD', by omega, ra'⟩
      | true =>
        -- D becomes a handle
        have hdl : ∀ a, a ∈ g'.ph ++ [D] → g'.A a := fun a h => by
          rcases List.mem_append.mp h with h | h
          · exact g'.sub a h
          · have z : a = D := by simpa using h
            rw [z]; exact aD
        have sg3 : Stp g1 H1 ⟨g'.A, g'.ph ++ [D], hdl⟩ H' := by
          obtain ⟨l, el⟩ := s'.pre
          refine ⟨⟨l ++ [D], by show g'.ph ++ [D] = _; rw [el, List.append_assoc]⟩, s'.kp, s'.hs, s'.tp, s'.fz, fun a h n q => ?_⟩
          rcases List.mem_append.mp q with q | q
          · exact s'.np a h n q
          · have z : a = D := by simpa using q
            rw [z] at h
            exact h hD
        have mono : Stp g' H' ⟨g'.A, g'.ph ++ [D], hdl⟩ H' ∨ True := .inr trivial
        have rep' : ∀ xs us, reps (sg X tab) g' H' xs us → reps (sg X tab) ⟨g'.A, g'.ph ++ [D], hdl⟩ H' xs us := by
          have k : ∀ t v, rep (sg X tab) g' H' t v → rep (sg X tab) ⟨g'.A, g'.ph ++ [D], hdl⟩ H' t v := by
            intro t
            induction t using T.rec (motive_2 := fun xs => ∀ vs, reps (sg X tab) g' H' xs vs → reps (sg X tab) ⟨g'.A, g'.ph ++ [D], hdl⟩ H' xs vs) with
            | non => exact fun _ h => h
            | bl _ => exact fun _ h => h
            | int _ => exact fun _ h => h
            | str _ => exact fun _ h => h
            | ty _ => exact fun _ h => h
            | hd _ =>
              intro v h
              obtain ⟨a, e, q⟩ := h
              refine ⟨a, e, ?_⟩
              show (g'.ph ++ [D])[_]? = some a
              rw [List.getElem?_append_left (List.getElem?_eq_some_iff.mp q).1]
              exact q
            | exn _ _ _ => exact fun _ h => h
            | fn _ => exact fun _ h => h
            | lst xs ih =>
              intro v h
              obtain ⟨a, vs, e, na, ha, l, r⟩ := h
              exact ⟨a, vs, e, na, ha, l, ih _ r⟩
            | tup xs ih =>
              intro v h
              obtain ⟨a, vs, e, q, l, r⟩ := h
              exact ⟨a, vs, e, q, l, ih _ r⟩
            | obj c xs ih =>
              intro v h
              obtain ⟨a, C, dx, fvs, n, ks, e, na, ht', hm, ha, hk, r⟩ := h
              exact ⟨a, C, dx, fvs, n, ks, e, na, ht', hm, ha, hk, ih _ r⟩
            | scr xs => exact fun _ h => h
            | nil => rename_i vs' h; exact h
            | cons x xs ih1 ih2 =>
              rename_i vs' h
              obtain ⟨v, r, e, h1, h2⟩ := h
              exact ⟨v, r, e, ih1 _ h1, ih2 _ h2⟩
          intro xs
          induction xs with
          | nil => exact fun _ h => h
          | cons x xs ih =>
            intro us h
            obtain ⟨v, r, e, h1, h2⟩ := h
            exact ⟨v, r, e, k _ _ h1, ih _ h2⟩
        have rel3 : Rel (sg X tab) ⟨g'.A, g'.ph ++ [D], hdl⟩ (m' ++ [.lst acc]) H' := by
          refine ⟨?_, ?_, r'.has, fun n a c h1 h2 => ?_⟩
          · show (g'.ph ++ [D]).length = _
            rw [List.length_append, List.length_append, r'.len]
            rfl
          · show (g'.ph ++ [D]).Nodup
            refine List.nodup_append.mpr ⟨r'.nd, by simp, fun a ha c hc q => ?_⟩
            have z : c = D := by simpa using hc
            exact nD' (by rw [← z, ← q]; exact ha)
          · have h1' : (g'.ph ++ [D])[n]? = some a := h1
            by_cases hn : n < g'.ph.length
            · rw [List.getElem?_append_left hn] at h1'
              rw [List.getElem?_append_left (by rw [← r'.len]; exact hn)] at h2
              have hc := r'.cell n a c h1' h2
              cases c with
              | lst xs =>
                obtain ⟨us, q, l, r⟩ := hc
                exact ⟨us, q, l, rep' _ _ r⟩
              | ins c xs =>
                obtain ⟨C, dx, fvs, n, ks, h1, h2, h3, h4, h5⟩ := hc
                exact ⟨C, dx, fvs, n, ks, h1, h2, h3, h4, rep' _ _ h5⟩
              | dK kvs =>
                obtain ⟨us, q, l, k, r⟩ := hc
                exact ⟨us, q, l, k, rep' _ _ r⟩
              | tab x q => exact hc
            · have hl : n = g'.ph.length := by
                have := (List.getElem?_eq_some_iff.mp h1').1
                rw [List.length_append] at this
                have : n < g'.ph.length + 1 := this
                omega
              subst hl
              rw [List.getElem?_append_right (Nat.le_refl _), Nat.sub_self] at h1'
              rw [r'.len, List.getElem?_append_right (Nat.le_refl _), Nat.sub_self] at h2
              have e1 : D = a := by simpa using h1'
              have e2 : Cell.lst acc = c := by simpa using h2
              subst e1
              subst e2
              exact ⟨av, hD', by omega, rep' _ _ ra⟩
        refine p' ⟨g'.A, g'.ph ++ [D], hdl⟩ H' sg3 rel3 (.ref D) ⟨D, rfl, ?_⟩
        show (g'.ph ++ [D])[m'.length]? = some D
        rw [← r'.len, List.getElem?_append_right (Nat.le_refl _), Nat.sub_self]
        rfl
end
end BV
/-! a def's end, raise, try -/
namespace BV
open PySem PySem.Spec L2 PyProof.Rows
mutual
theorem rep_bel {S : Sg} {g : Gh} {H : Hp} : ∀ (t : T) (v : V), rep S g H t v → bel g.ph.length t = true
  | .non, _, _ => rfl
  | .bl _, _, _ => rfl
  | .int _, _, _ => rfl
  | .str _, _, _ => rfl
  | .ty _, _, _ => rfl
  | .lst xs, v, h => by
    obtain ⟨a, vs, e, na, ha, l, r⟩ := h
    exact reps_bel xs vs r
  | .tup xs, v, h => by
    obtain ⟨a, vs, e, q, l, r⟩ := h
    exact reps_bel xs vs r
  | .obj c xs, v, h => by
    obtain ⟨a, C, dx, fvs, n, ks, e, na, ht', hm, ha, hk, r⟩ := h
    exact reps_bel xs _ r
  | .hd n, v, h => by
    obtain ⟨a, e, q⟩ := h
    have l := (List.getElem?_eq_some_iff.mp q).1
    simp [bel, l]
  | .scr _, _, _ => rfl
  | .exn _ _, _, _ => rfl
  | .fn _, _, _ => rfl
theorem reps_bel {S : Sg} {g : Gh} {H : Hp} : ∀ (xs : List T) (vs : List V), reps S g H xs vs → bels g.ph.length xs = true
  | [], _, _ => rfl
  | x :: xs, _, h => by
    obtain ⟨v, r, e, h1, h2⟩ := h
    simp [bels, rep_bel x v h1, reps_bel xs r h2]
end
theorem sub_of {S : Sg} {g g' : Gh} {m : Sto} {H H' : Hp} (s : Stp g H g' H') (rl : Rel S g m H) : ∀ a, g.A a → g'.A a := fun a h => by
  by_cases q : a ∈ g.ph
  · obtain ⟨l, e⟩ := s.pre
    exact g'.sub a (by rw [e]; exact List.mem_append_left _ q)
  · cases e : H a with
    | none => exact absurd e (rl.has a h)
    | some o => exact (s.kp a o e q).2.mpr h
mutual
theorem rep_back {S : Sg} {g g' : Gh} {H H' : Hp} (s : Stp g H g' H') (hA : ∀ a, g.A a → g'.A a) : ∀ (t : T) (v : V), bel g.ph.length t = true → rep S g' H' t v → rep S g H' t v
  | .non, _, _, h => h
  | .bl _, _, _, h => h
  | .int _, _, _, h => h
  | .str _, _, _, h => h
  | .ty _, _, _, h => h
  | .lst xs, v, b, h => by
    obtain ⟨a, vs, e, na, ha, l, r⟩ := h
    exact ⟨a, vs, e, fun z => na (hA a z), ha, l, reps_back s hA xs vs b r⟩
  | .tup xs, v, b, h => by
    obtain ⟨a, vs, e, q, l, r⟩ := h
    exact ⟨a, vs, e, q, l, reps_back s hA xs vs b r⟩
  | .obj c xs, v, b, h => by
    obtain ⟨a, C, dx, fvs, n, ks, e, na, ht', hm, ha, hk, r⟩ := h
    exact ⟨a, C, dx, fvs, n, ks, e, fun z => na (hA a z), ht', hm, ha, hk, reps_back s hA xs _ b r⟩
  | .hd n, v, b, h => by
    obtain ⟨a, e, q⟩ := h
    have l : n < g.ph.length := by simpa [bel] using b
    obtain ⟨l', e'⟩ := s.pre
    rw [e', List.getElem?_append_left l] at q
    exact ⟨a, e, q⟩
  | .scr xs, v, _, h => by
    obtain ⟨a, e, ha, l⟩ := h
    exact ⟨a, e, SqA.less ha hA (fun _ _ h => h) fun _ _ h => h, l⟩
  | .exn _ _, _, _, h => h
  | .fn (some _), _, _, h => h
  | .fn none, _, _, h => by
    obtain ⟨a, e, q⟩ := h
    exact ⟨a, e, FnN.less q hA fun _ _ _ h => h⟩
theorem reps_back {S : Sg} {g g' : Gh} {H H' : Hp} (s : Stp g H g' H') (hA : ∀ a, g.A a → g'.A a) : ∀ (xs : List T) (vs : List V), bels g.ph.length xs = true → reps S g' H' xs vs → reps S g H' xs vs
  | [], _, _, h => h
  | x :: xs, _, b, h => by
    obtain ⟨v, r, e, h1, h2⟩ := h
    have b' : bel g.ph.length x = true ∧ bels g.ph.length xs = true := by simpa [bels] using b
    exact ⟨v, r, e, rep_back s hA x v b'.1 h1, reps_back s hA xs r b'.2 h2⟩
end
theorem stp_back {g g' : Gh} {H H' : Hp} (s : Stp g H g' H') : Stp g H g H' :=
  ⟨⟨[], by simp⟩, fun a o e n => ⟨(s.kp a o e n).1, Iff.rfl⟩, s.hs, s.tp, s.fz, fun _ _ n => n⟩
theorem cell_bel {S : Sg} {g : Gh} {H : Hp} {a : Addr} {c : Cell} (h : cellOk S g H a c) : c.bel g.ph.length = true := by
  cases c with
  | lst xs => obtain ⟨vs, q, l, r⟩ := h; exact reps_bel _ _ r
  | ins c xs => obtain ⟨C, dx, fvs, n, ks, h1, h2, h3, h4, h5⟩ := h; exact reps_bel _ _ h5
  | dK kvs => obtain ⟨us, q, l, k, r⟩ := h; exact reps_bel _ _ r
  | tab x q => rfl
theorem cell_back {S : Sg} {g g' : Gh} {H H' : Hp} (s : Stp g H g' H') (hA : ∀ a, g.A a → g'.A a) {a : Addr} {c : Cell} (b : c.bel g.ph.length = true) (h : cellOk S g' H' a c) : cellOk S g H' a c := by
  cases c with
  | lst xs => obtain ⟨vs, q, l, r⟩ := h; exact ⟨vs, q, l, reps_back s hA _ _ b r⟩
  | ins c xs => obtain ⟨C, dx, fvs, n, ks, h1, h2, h3, h4, h5⟩ := h; exact ⟨C, dx, fvs, n, ks, h1, h2, h3, h4, reps_back s hA _ _ b h5⟩
  | dK kvs => obtain ⟨us, q, l, k, r⟩ := h; exact ⟨us, q, l, k, reps_back s hA _ _ b r⟩
  | tab x q => obtain ⟨q1, q2⟩ := h; exact ⟨q1, q2.less hA (fun _ h => h) fun _ _ _ h => h⟩
theorem rel_back {S : Sg} {g g' : Gh} {m m' : Sto} {H H' : Hp} (s : Stp g H g' H') (rl : Rel S g m H) (r' : Rel S g' m' H') (ok : okDr m m') : Rel S g (m'.take m.length) H' := by
  have hA := sub_of s rl
  refine ⟨?_, rl.nd, fun a h => s.hs a (rl.has a h), fun n a c h1 h2 => ?_⟩
  · rw [List.length_take, rl.len]
    have := ok.1
    omega
  · have l : n < g.ph.length := (List.getElem?_eq_some_iff.mp h1).1
    have l' : n < m.length := by rw [← rl.len]; exact l
    have h2' : m'[n]? = some c := by rwa [List.getElem?_take_of_lt l'] at h2
    have b : c.bel g.ph.length = true := by
      rcases ok.2 n c l' h2' with q | q
      · exact cell_bel (rl.cell n a c h1 q)
      · rw [rl.len]; exact q
    exact cell_back s hA b (r'.cell n a c (s.at h1) h2')
theorem frz_back {S : Sg} {g g' : Gh} {m m' : Sto} {H H' : Hp} (s : Stp g H g' H') (rl : Rel S g m H) (r' : Rel S g' m' H') (nd : ∀ a, a ∈ g'.ph → a ∉ g.ph → ¬ g.A a) : ∀ (n : Nat) (t t' : T) (v : V), frz m.length m' n t = some t' → rep S g' H' t v → rep S g H' t' v := by
  have hA := sub_of s rl
  have low : ∀ (t t' : T) (v : V), bel m.length t = true → some t = some t' → rep S g' H' t v → rep S g H' t' v := fun t t' v b e h => by
    obtain rfl := Option.some.inj e
    exact rep_back s hA t v (by rw [rl.len]; exact b) h
  intro n
  induction n with
  | zero =>
    intro t t' v e h
    simp only [frz] at e
    split at e
    · exact low t t' v ‹_› e h
    · cases e
  | succ n ih =>
    have ihL : ∀ (xs ys : List T) (vs : List V), frzL (frz m.length m' n) xs = some ys → reps S g' H' xs vs → reps S g H' ys vs ∧ ys.length = xs.length := by
      intro xs
      induction xs with
      | nil =>
        intro ys vs e h
        obtain rfl := Option.some.inj e
        exact ⟨h, rfl⟩
      | cons x xs ihx =>
        intro ys vs e h
        unfold frzL at e
        split at e
        · rename_i y ys' e1 e2
          obtain rfl := Option.some.inj e
          obtain ⟨v, r, rfl, h1, h2⟩ := h
          obtain ⟨q1, q2⟩ := ihx ys' r e2 h2
          exact ⟨⟨v, r, rfl, ih x y v e1 h1, q1⟩, by rw [List.length_cons, List.length_cons, q2]⟩
        · cases e
    intro t t' v e h
    simp only [frz] at e
    split at e
    · exact low t t' v ‹_› e h
    · rename_i nb
      cases t with
      | hd k =>
        obtain ⟨a, rfl, ha⟩ := h
        have hk : ¬ k < m.length := by simpa [bel] using nb
        have hin : a ∈ g'.ph := List.mem_of_getElem? ha
        have hout : a ∉ g.ph := fun hm => by
          obtain ⟨j, hj, ej⟩ := List.getElem_of_mem hm
          have q := s.at (n := j) (a := a) (by rw [List.getElem?_eq_getElem hj, ej])
          obtain ⟨i1, j1⟩ := List.getElem?_eq_some_iff.mp ha
          obtain ⟨i2, j2⟩ := List.getElem?_eq_some_iff.mp q
          have : k = j := (List.getElem_inj r'.nd).mp (j1.trans j2.symm)
          rw [rl.len] at hj
          omega
        have nA := nd a hin hout
        dsimp only at e
        split at e
        · rename_i xs hx
          obtain ⟨vs, h1, h2, h3⟩ := r'.cell k a _ ha hx
          cases q : frzL (frz m.length m' n) xs with
          | none => rw [q] at e; cases e
          | some ys =>
            rw [q] at e
            obtain rfl := Option.some.inj e
            obtain ⟨q1, q2⟩ := ihL xs ys vs q h3
            exact ⟨a, vs, rfl, nA, h1, by rw [q2]; exact h2, q1⟩
        · rename_i c xs hx
          obtain ⟨C, dx, fvs, nm, ks, h1, h2, h3, h4, h5⟩ := r'.cell k a _ ha hx
          cases q : frzL (frz m.length m' n) xs with
          | none => rw [q] at e; cases e
          | some ys =>
            rw [q] at e
            obtain rfl := Option.some.inj e
            obtain ⟨q1, q2⟩ := ihL xs ys _ q h5
            exact ⟨a, C, dx, fvs, nm, ks, rfl, nA, h1, h2, h3, h4, q1⟩
        · cases e
      | tup xs =>
        obtain ⟨a, vs, rfl, q, l, r⟩ := h
        dsimp only at e
        cases q' : frzL (frz m.length m' n) xs with
        | none => rw [q'] at e; cases e
        | some ys =>
          rw [q'] at e
          obtain rfl := Option.some.inj e
          obtain ⟨q1, q2⟩ := ihL xs ys vs q' r
          exact ⟨a, vs, rfl, q, by rw [q2]; exact l, q1⟩
      | lst xs =>
        obtain ⟨a, vs, rfl, na, q, l, r⟩ := h
        dsimp only at e
        cases q' : frzL (frz m.length m' n) xs with
        | none => rw [q'] at e; cases e
        | some ys =>
          rw [q'] at e
          obtain rfl := Option.some.inj e
          obtain ⟨q1, q2⟩ := ihL xs ys vs q' r
          exact ⟨a, vs, rfl, fun z => na (hA a z), q, by rw [q2]; exact l, q1⟩
      | obj c xs =>
        obtain ⟨a, C, dx, fvs, nm, ks, rfl, na, h1, h2, h3, h4, h5⟩ := h
        dsimp only at e
        cases q' : frzL (frz m.length m' n) xs with
        | none => rw [q'] at e; cases e
        | some ys =>
          rw [q'] at e
          obtain rfl := Option.some.inj e
          obtain ⟨q1, q2⟩ := ihL xs ys _ q' h5
          exact ⟨a, C, dx, fvs, nm, ks, rfl, fun z => na (hA a z), h1, h2, h3, h4, q1⟩
      | _ => cases e
theorem nd_of {S : Sg} {g g' : Gh} {m : Sto} {H H' : Hp} (s : Stp g H g' H') (rl : Rel S g m H) : ∀ a, a ∈ g'.ph → a ∉ g.ph → ¬ g.A a := fun a h1 h2 z => s.np a (rl.has a z) h2 h1
theorem repX_back {S : Sg} {g g' : Gh} {H H' : Hp} (s : Stp g H g' H') (hA : ∀ a, g.A a → g'.A a) {c : Nat} {xs : List T} {cls : Value} {d : Option Addr} (b : bels g.ph.length xs = true) (h : repX S g' H' c xs cls d) : repX S g H' c xs cls d := by
  obtain ⟨n, ks, C, h1, h2, h3, h4⟩ := h
  refine ⟨n, ks, C, h1, h2, h3, ?_⟩
  cases xs with
  | nil => exact h4
  | cons x xs =>
    obtain ⟨dd, v, f, e1, e2, e3, e4, e5, e6⟩ := h4
    have b' : bel g.ph.length x = true ∧ bels g.ph.length xs = true := by simpa [bels] using b
    exact ⟨dd, v, f, e1, e2, e3, fun z => e4 (hA dd z), rep_back s hA x v b'.1 e5, e6⟩
theorem drp_po {S : Sg} {g : Gh} {m : Sto} {H : Hp} {Q : VK} {W : Value → Option Addr → Hp → Prop} {r : Rs T} (rl : Rel S g m H) (h : PoT S g H Q W (match r with | .ok t m' => drp m m' t | .exc k xs m' => drpX k xs m m' | .bad => .bad)) : PoT S g H Q W r := by
  cases r with
  | ok t m' =>
    dsimp only at h
    unfold drp at h
    split at h
    · rename_i ok
      split at h
      · rename_i t' e
        intro g' H' s' r' v hv
        exact h g H' (stp_back s') (rel_back s' rl r' ok) v (frz_back s' rl r' (nd_of s' rl) 4 t t' v e hv)
      · exact h
    · exact h
  | exc c xs m' =>
    dsimp only at h
    unfold drpX at h
    split at h
    · rename_i ok
      intro g' H' cls d s' r' hx
      exact h g H' cls d (stp_back s') (rel_back s' rl r' ok.1) (repX_back s' (sub_of s' rl) (by rw [rl.len]; exact ok.2) hx)
    · exact h
  | bad => exact h
/-! ### a def -/
theorem slots_start {S : Sg} {g : Gh} {H : Hp} {ts : List T} {vs : List V} {N : List Str} (r : reps S g H ts vs) (hl : ts.length ≤ N.length) : slotsOk S none g H (ts.map some ++ List.replicate (N.length - ts.length) none) (L2.start N vs) := by
  have lv := reps_len r
  refine ⟨by simp [L2.start, lv], fun i t q => ?_, fun x hx => nomatch hx⟩
  by_cases hi : i < ts.length
  · rw [List.getElem?_append_left (by simpa using hi), List.getElem?_map] at q
    cases e : ts[i]? with
    | none => rw [e] at q; cases q
    | some u =>
      rw [e] at q
      obtain rfl : u = t := Option.some.inj (Option.some.inj q)
      obtain ⟨v, h1, h2⟩ := reps_get r e
      refine ⟨v, ?_, h2⟩
      unfold L2.start
      rw [List.getElem?_append_left (by simp [lv, hi]), List.getElem?_map, h1]
      rfl
  · rw [List.getElem?_append_right (by simpa using hi), List.getElem?_replicate] at q
    split at q <;> cases q
section
variable {P : Program} {w : World} {K : PySem.W.Frag} {mg : Str → Option Value} {base : Heap} {tab : List (Str × List Str)}
theorem fnK_ok {x qual : Str} {st : Stmt} {f : Addr} {fd : FuncData} {N ps : List Str} {k np nl : Nat} {b : List MS} (F : Fun K x qual st f fd) (S : FnScope N ps (defScope st)) (hp : ps.length = np) (hl : N.length = nl)
    (body : ∀ (cdv : Value) (A : Around) (outer : List Env) (s : Shared) (H : Hp) (E : XK), Room k (A.deeper (envOfC qual (defScope st) s.heap.objs.size f cdv)) →
      BSs (cxOf (L2.CX P w) P w K mg base N qual (defScope st) f cdv A outer s H E) tab none (fun cls d _ H => E cls d H) (defBody st) (denSs b)) :
    FnOk P w K mg base (L2.CX P w) (k + 1) f fd ps (spB ⟨K, mg, tab⟩ (fnK np nl b)) := by
  have hpl : ps.length ≤ N.length := by have := congrArg List.length S.pre; rw [List.length_take] at this; omega
  refine Fun.okX F S (fun vs H Q E ⟨g, m, ts, rl, r, p⟩ => ?_) fun cdv A outer s H vs Q E hr ⟨g, m, ts, rl, r, p⟩ => ⟨_, body cdv A outer s H E hr, ?_⟩
  · rw [reps_len r, hp]
    by_cases c : ts.length = np
    · exact c
    · unfold fnK at p
      rw [if_neg c] at p
      exact p.elim
  · unfold fnK at p
    by_cases c : ts.length = np
    · rw [if_pos c] at p
      refine ⟨g, ts.map some ++ List.replicate (nl - np) none, m, rl, ?_, ?_⟩
      · have := slots_start (N := N) r (by omega)
        rw [hl, c] at this
        exact this
      · cases q : denSs b (ts.map some ++ List.replicate (nl - np) none) m with
        | nx e m' =>
          rw [q] at p
          exact fun g' H' σ' s' r' so' => p g' H' s' r' .non rfl
        | rt t m' =>
          rw [q] at p
          exact fun g' H' v s' r' hv => p g' H' s' r' v hv
        | exc c xs e m' =>
          rw [q] at p
          exact fun g' H' σ' cls d s' r' so' hx => p g' H' cls d s' r' hx
        | bk e m' => rw [q] at p; exact p.elim
        | ct e m' => rw [q] at p; exact p.elim
        | bad => rw [q] at p; exact p.elim
    · rw [if_neg c] at p
      exact p.elim
theorem spB_D {S : Sg} {np nl : Nat} {b : List MS} : ∀ vs H Q E, spB S (fnD np nl b) vs H Q E → spB S (fnK np nl b) vs H Q E := fun vs H Q E ⟨g, m, ts, rl, r, p⟩ => ⟨g, m, ts, rl, r, drp_po rl p⟩
end
section
variable {X : Cx} {tab : List (Str × List Str)} {z : Option Xz} {W : WX}
/-- a new instance that its maker keeps to itself -/
theorem be_mkF {x : Str} {p pos : Pos} {a : Expr} {es : List Expr} {fl : Sl → Sto → Rs (List T)} {f : Fn} {k c : Nat} (tk : Takes X W) (hr : Room (k + 1) X.A) (hg : Gl X x) (M : MkB X tab k x c f) (hd : (x == ("__debug__" : Str)) = false) (hs : ∀ x p, a ≠ .Starred x p) (hpl : (backTo pos (starEach es X.env)).any (·.1) = false) (h : BA X tab z W (a :: es) fl) :
    BE X tab z W (.Call (.Name x p) (a :: es) [] pos) (fun e m => (fl e m).bind fun ts m' => mkFT c f ts m') := by
  obtain ⟨ks, C, fI, fd, ps, h1, h2, M, F, hb⟩ := M.ok
  refine pe_w (pe_makeB tk M F hr hg h2 hb hd hs hpl h) fun σ H Q ⟨g, e, m, rl, so, q⟩ => ?_
  refine liftA_eq rl so q fun g1 H1 ts m1 vs eq r1 so1 s1 hvs p1 => ?_
  exact fun x dx hx hdx ne => mk_use r1 hx hdx ne h1 h2 hvs (drp_po r1 p1)
/-! ### raise -/
structure RseOk (X : Cx) (tab : List (Str × List Str)) (x : Str) (c : Nat) : Prop where
  ok : ∃ ks C, tab[c]? = some (x, ks) ∧ X.mg x = some (.ref C) ∧ PySem.W.excIn X.K C [.type "ValueError", .type "Exception", .type "BaseException", .type "object"] "ValueError.__new__" = true ∧ PySem.W.keepIn X.K (.ref C) = true ∧ PySem.W.subIn X.K (.ref C) (.type "BaseException") = some true ∧ PySem.W.typeIn X.K (.ref C) = some (.type "type")
theorem bs_rse {x : Str} {c : Nat} {m : Str} {j : Nat} {p p2 pos pos' : Pos} (R : RseOk X tab x c) (hc : X.calm = true) (tk : Takes X W) (hg : Gl X x) (hd : (x == ("__debug__" : Str)) = false) :
    BS X tab z W (.Raise (some (.Call (.Name x p) [.Constant (.str m) j p2] [] pos)) none pos') (fun e m => .exc c [] e m) := by
  obtain ⟨ks, C, h1, h2, h3, h4, h5, h6⟩ := R.ok
  refine ps_w (ps_raise hc tk (pmk_own PySem.F.excBase_ValueError h3 h2 h4 (raises_own h5 h6) hg hd)) fun D σ H ⟨g, e, m, rl, so, p⟩ => ?_
  exact p g H σ (.ref C) none (Stp.refl g H) rl so ⟨x, ks, C, h1, h2, rfl, rfl⟩
end
end BV
/-! exceptions with an own __init__ of one field -/
namespace BV
open PySem PySem.Spec L2 He PyProof.Rows
/-- an exception class, its __init__ at fI, its one field f -/
structure OexF (K : PySem.W.Frag) (C fI : Addr) (f : Str) : Prop where
  T : OexC K C
  nf : PySem.W.findIn K (.ref C) f = some none
  iC : PySem.W.findIn K (.ref C) "__init__" = some (some (.ref fI))
  tI : PySem.W.typeIn K (.ref fI) = some (.type "function")
/-- the class over it, whose __init__ is that of ValueError -/
structure HinC (K : PySem.W.Frag) (CH : Addr) : Prop where
  ga : PySem.W.specialIn K (.ref CH) "__getattribute__" = some (some (.builtin "type.__getattribute__"))
  rd : PySem.W.readsIn K CH (.type "type") = true
  fc : PySem.W.findCls K (.ref CH) (.type "type") "__init__" = some (.val (.builtin "ValueError.__init__"))
theorem bai {a b : Bool} (h : (a && b) = true) : a = true ∧ b = true := Bool.and_eq_true_iff.mp h
theorem ocls_ok {K : PySem.W.Frag} {C : Addr} (h : oclsB K C = true) : ∃ nm q N bs bm sn sub ab col dd k0 k1 k2 k3 k5, K.lookup C = some (excClassObj nm q C N bs bm true sn sub ab col dd k0 k1 k2 k3 k5 "ValueError.__new__") ∧ PySem.HandSPX.refsVE bm = true := by
  unfold oclsB at h
  split at h
  · rename_i dd cd sl ho
    split at h
    · rename_i C' bm k0 k1 k2 k3 n k5 hm hs
      obtain ⟨h1, h⟩ := bai h
      obtain ⟨h2, h⟩ := bai h
      obtain ⟨h3, h⟩ := bai h
      obtain ⟨h4, h5⟩ := bai h
      have e1 := of_decide_eq_true h1
      have e2 := of_decide_eq_true h2
      subst e1 e2
      obtain ⟨nm, bs, mro, ns, qn, hd, sn, sub, ab, col, dl⟩ := cd
      have hm' : mro = _ := hm
      have hdel : dl = false := by simpa using h3
      have hdc : hd = true := h4
      subst hm' hdel hdc
      obtain ⟨sls⟩ := sl
      have hs' : sls = _ := hs
      subst hs'
      exact ⟨_, _, _, _, _, _, _, _, _, _, _, _, _, _, _, ho, h5⟩
    · cases h
  · cases h
theorem oex_ok {K : PySem.W.Frag} {C fI : Addr} {f : Str} (h : oexB K C fI f = true) : OexF K C fI f := by
  unfold oexB at h
  obtain ⟨h1, h⟩ := bai h
  obtain ⟨h2, h⟩ := bai h
  obtain ⟨h3, h⟩ := bai h
  obtain ⟨h4, h⟩ := bai h
  obtain ⟨h5, h⟩ := bai h
  obtain ⟨h6, h⟩ := bai h
  obtain ⟨h7, h8⟩ := bai h
  exact ⟨⟨ocls_ok h1, eqO_ok h2, of_decide_eq_true h3, of_decide_eq_true h4, h5⟩, eqO_ok h6, eqO_ok h7, of_decide_eq_true h8⟩
theorem hin_ok {K : PySem.W.Frag} {CH : Addr} (h : hinB K CH = true) : HinC K CH := by
  unfold hinB at h
  obtain ⟨h1, h⟩ := bai h
  obtain ⟨h2, h3⟩ := bai h
  refine ⟨eqO_ok h1, h2, ?_⟩
  split at h3
  · rename_i x hx
    have e := of_decide_eq_true h3
    subst e
    exact hx
  · cases h3
section
variable {X : Cx} {x : Str} {CH : Addr} {a0 : Expr} {l0 : List Expr} {t0 : TA} {q1 q2 q3 : Pos}
/-- the __init__ of the class over it -/
theorem pe_hinit {plain : Sem Bool} (hg : Gl X x) (hm : X.mg x = some (.ref CH)) (hd : (x == ("__debug__" : Str)) = false) (F : HinC X.K CH) (ha : PA X (a0 :: l0) t0)
    (h1 : eval (.Call (.Attribute (.Name x q1) "__init__" q2) (a0 :: l0) [] q3) X.env = (do
      let fv ← eval (.Name x q1) X.env
      standAt q2.atName
      let (g, fst) ← holding [fv] (getMethod fv "__init__" plain)
      callWith q3 g fst (backTo q3 (starEach (a0 :: l0) X.env)) (backToKw q3 (keywordEach [] X.env))) := by rfl)
    (h2 : starEach (a0 :: l0) X.env = (false, eval a0 X.env) :: starEach l0 X.env := by rfl) (h3 : (backTo q3 (starEach l0 X.env)).any (·.1) = false := by rfl) :
    PE X (.Call (.Attribute (.Name x q1) "__init__" q2) (a0 :: l0) [] q3) (tVeI X.K t0) := by
  constructor
  intro pn sh σ hp Q Iv hq
  refine PySem.W.methodCall_KW (ld_glob Iv hg hm ?_ hd) h1
  refine PySem.W.method_cls Iv.kIn F.ga (PySem.W.cls_value Iv.kIn F.rd F.fc (by decide +kernel) ?_)
  refine PyProof.Rows.callWith_method1 (thn (ha.run q3 pn _ σ hp _ (Iv.tok _) hq) fun us sh2 ⟨vs, hp2, Iv2, rl, ad, cl, rest, ev, lim, tc, at_, fin⟩ => ?_) h2 h3
  subst ev
  cases rl with
  | @cons _ w0 _ wr ra rr =>
    have e0 : w0 = Value.ref ad := ra
    subst e0
    have room : wr.length ≤ sizeLine := by
      rw [← Paired.length rr]
      rw [sizeLine_eq]
      omega
    exact oinit_ok tc Iv2 at_ room fun sh3 Iv3 => ⟨V.non, hp2, Iv3, rfl, fin⟩
end
/-- what such an __init__ does -/
def spO (K : PySem.W.Frag) (f : Str) : Sp := fun vs H Q _ => ∃ (a C : Addr) (t y : V), vs = [.ref a, t, y] ∧ OexC K C ∧ PySem.W.findIn K (.ref C) f = some none ∧ H a = some (exo a C none) ∧
  ∀ dx, H dx = none → dx ≠ a → Q .non (upd (upd H dx (exd dx [(f, y)])) a (exo a C (some dx)))
/-- a raise of such a class -/
structure RoeOk (X : Cx) (tab : List (Str × List Str)) (k : Nat) (x : Str) (c : Nat) (d : Option Int) : Prop where
  ok : ∃ f C fI fd ps, tab[c]? = some (x, [f]) ∧ X.mg x = some (.ref C) ∧ OexF X.K C fI f ∧ FnOk X.prog X.w X.K X.mg X.base (L2.CX X.prog X.w) k fI fd ps (spO X.K f) ∧ (match d with
    | none => Binds X.K fd ps []
    | some i => ∃ ds, Vals [V.int i] ds ∧ Binds X.K fd ps ds)
section
variable {X : Cx} {tab : List (Str × List Str)} {z : Option Xz} {W : WX}
theorem roe_use {g1 : Gh} {m1 : Sto} {H1 : Hp} {C : Addr} {c : Nat} {x f : Str} {t : T} {u y : V} {vs : List V} {Q : XK} (hv : vs = [u, y]) (r1 : Rel (sg X tab) g1 m1 H1) (h1 : tab[c]? = some (x, [f])) (h2 : X.mg x = some (.ref C)) (T : OexC X.K C) (nf : PySem.W.findIn X.K (.ref C) f = some none) (hy : rep (sg X tab) g1 H1 t y)
    (p : ∀ H' cls d, Stp g1 H1 g1 H' → Rel (sg X tab) g1 m1 H' → repX (sg X tab) g1 H' c [t] cls d → Q cls d H') (a : Addr) (ha : H1 a = none) :
    spO X.K f (.ref a :: vs) (upd H1 a (exo a C none)) (fun v H2 => v = .non ∧ ∃ (d : Addr) (fs : List (Str × V)), H2 a = some (exo a C (some d)) ∧ H2 d = some (exd d fs) ∧ H1 d = none ∧ Q (.ref C) (some d) (upd (del H2 a) d (.xd fs))) (fun _ _ _ => False) := by
  subst hv
  refine ⟨a, C, u, y, rfl, T, nf, upd_same, fun dx hdx ne => ⟨rfl, dx, [(f, y)], upd_same, ?_, ?_, ?_⟩⟩
  · rw [upd_ne ne, upd_same]
  · rwa [upd_ne ne] at hdx
  · have hd : H1 dx = none := by rwa [upd_ne ne] at hdx
    have e : upd (del (upd (upd (upd H1 a (exo a C none)) dx (exd dx [(f, y)])) a (exo a C (some dx))) a) dx (.xd [(f, y)]) = upd H1 dx (.xd [(f, y)]) := by
      funext b
      by_cases hb : b = dx
      · subst hb
        rw [upd_same, upd_same]
      · rw [upd_ne hb, upd_ne hb]
        by_cases hba : b = a
        · subst hba
          rw [del_same, ha]
        · rw [del_ne hba, upd_ne hba, upd_ne hb, upd_ne hba]
    rw [e]
    have ex := ext_upd (o := HO.xd [(f, y)]) hd
    refine p _ _ _ (Stp.ext ex) (r1.ext ex) ⟨x, [f], C, h1, h2, rfl, dx, y, f, rfl, rfl, upd_same, r1.fresh hd, ?_, rfl⟩
    exact rep_mono (Stp.ext ex) _ _ hy
theorem passF {X : Cx} : Passes (L2.CX X.prog X.w) X (fun _ _ _ => False) := fun _ _ _ _ _ _ _ ⟨_, _, _, _, _, _, _, _, _, _, _, _, h⟩ => h.elim
theorem bs_roe {x : Str} {c k : Nat} {m : Str} {j : Nat} {p p2 pos pos' : Pos} {b : Expr} {fb : Sl → Sto → Rs T} (R : RoeOk X tab k x c none) (hr : Room (k + 1) X.A) (hc : X.calm = true) (tk : Takes X W) (hg : Gl X x) (hd : (x == ("__debug__" : Str)) = false)
    (hs : ∀ x p, b ≠ .Starred x p) (hpl : (backTo pos (starEach [b] X.env)).any (·.1) = false) (hb : BE X tab z W b fb) :
    BS X tab z W (.Raise (some (.Call (.Name x p) [.Constant (.str m) j p2, b] [] pos)) none pos') (fun e m => (fb e m).st e fun t m1 => .exc c [t] e m1) := by
  obtain ⟨f, C, fI, fd, ps, h1, h2, F, F1, hb1⟩ := R.ok
  refine ps_w (ps_raise hc tk (pmk_oex F.T F.iC F.tI F1 hr hb1 .nil passF hg h2 (pa_cons pe_str (pa_cons hb pa_nil (star_of hs)) rfl) hd rfl hpl)) fun D σ H ⟨g, e, m0, rl, so, q⟩ => ?_
  dsimp only at q
  cases r : fb e m0 with
  | bad => rw [r] at q; exact q.elim
  | exc c2 xs m1 =>
    rw [r] at q
    exact ⟨g, e, m0, rl, so, by rw [r]; exact fun g' H' cls d s' r' hx => q g' H' σ cls d s' r' (slots_mono s' so) hx⟩
  | ok t m1 =>
    rw [r] at q
    refine ⟨g, e, m0, rl, so, ?_⟩
    rw [r]
    intro g' H' s' r' v hv
    refine ⟨by show 2 ≤ 1000; decide, ?_⟩
    refine roe_use (u := .str m) (y := v) (vs := [V.str m, v] ++ []) (Q := fun cls d H' => W cls d σ H') rfl r' h1 h2 F.T F.nf hv fun H2 cls d s2 r2 hx => ?_
    exact q g' H2 σ cls d (s'.trans s2) r2 (slots_mono (s'.trans s2) so) hx
theorem bs_roeD {x : Str} {c k : Nat} {m : Str} {j : Nat} {p p2 pos pos' : Pos} {i : Int} (R : RoeOk X tab k x c (some i)) (hr : Room (k + 1) X.A) (hc : X.calm = true) (tk : Takes X W) (hg : Gl X x) (hd : (x == ("__debug__" : Str)) = false) :
    BS X tab z W (.Raise (some (.Call (.Name x p) [.Constant (.str m) j p2] [] pos)) none pos') (fun e m => .exc c [.int i] e m) := by
  obtain ⟨f, C, fI, fd, ps, h1, h2, F, F1, ds, hv, hb1⟩ := R.ok
  refine ps_w (ps_raise hc tk (pmk_oex F.T F.iC F.tI F1 hr hb1 hv passF hg h2 (pa_cons pe_str pa_nil rfl) hd rfl rfl)) fun D σ H ⟨g, e, m0, rl, so, q⟩ => ?_
  refine ⟨by show 1 ≤ 1000; decide, ?_⟩
  exact roe_use (u := .str m) (y := .int i) (t := .int i) (vs := [V.str m] ++ [V.int i]) (Q := fun cls d H' => W cls d σ H') rfl rl h1 h2 F.T F.nf rfl fun H2 cls d s2 r2 hx => q g H2 σ cls d s2 r2 (slots_mono s2 so) hx
end
end BV
/-! a lambda that tells None, made -/
namespace BV
open PySem PySem.Spec L2 LamX
section
variable {X : Cx} {tab : List (Str × List Str)} {z : Option Xz} {W : WX}
/-- what the table tells -/
def TabT (H : Hp) (P : Addr) (q : Str) (ps : Array Value) : Prop := H P = some (.tbl ps) ∧ TriplesOk ps.toList ∧ ∀ (pos : Pos) (cv : Value), codeAmong pos ps.toList = some cv → ∃ c, cv = .ref c ∧ H c = some (CodeO c q)
/-- behind the making: the function f, its code object c, which is new or stood in the table -/
structure Made (H H1 : Hp) (P f c : Addr) (q : Str) (ps : Arguments) (b : Expr) (sc : Scope) (t0 : Array Value) : Prop where
  keep : ∀ a o, a ≠ P → H a = some o → H1 a = some o
  new : H f = none
  fn : H1 f = some (FnL f q ps b sc c)
  cd : H1 c = some (CodeO c q)
  cn : H c = none ∨ ∃ pos, codeAmong pos t0.toList = some (.ref c)
  tb : ∃ t1, TabT H1 P q t1 ∧ ∀ pos cv, codeAmong pos t1.toList = some cv → cv = .ref c ∨ codeAmong pos t0.toList = some cv
def tLam1 (P : Addr) (q : Str) (ps : Arguments) (b : Expr) (sc : Scope) : TE := fun _ H Q => ∃ t0, TabT H P q t0 ∧ ∀ f c H1, Made H H1 P f c q ps b sc t0 → Q (.ref f) H1
theorem clo_nil (cells : List (Str × Addr)) : ∀ (names : List (Str × NameKind)), (∀ y ∈ names, y.2 ≠ .free) → cloFrom cells names [] = []
  | [], _ => rfl
  | (x, k) :: r, h => by
    have hk := h (x, k) List.mem_cons_self
    have ih := clo_nil cells r fun y hy => h y (List.mem_cons_of_mem _ hy)
    cases k <;> first | exact absurd rfl hk | (unfold cloFrom; exact ih)
theorem among_new {pos p' : Pos} {c cv : Value} (l : List Value) (h : TriplesOk l) (hc : codeAmong p' (l ++ [rawInt pos.line, rawInt pos.col, c]) = some cv) : cv = c ∨ codeAmong p' l = some cv := (among_app l h hc).symm
theorem lam_laid {pins : List (Addr × Obj)} {σ : L2.St} {H : Hp} {s : Shared} {q : Str} {ps : Arguments} {b : Expr} {sc : Scope} {c : Addr} {pm ctv : Value} {t' : Nat} (I : Inv X pins σ H s) :
    Inv X pins σ (upd H s.heap.objs.size (FnL s.heap.objs.size q ps b sc c)) { s with heap := s.heap.push (PySem.W.kla_obj "<lambda>" q ps b sc [] pm c ctv), toks := t' } := by
  have at_ := Heap.get?_push_size (h := s.heap) (o := PySem.W.kla_obj "<lambda>" q ps b sc [] pm c ctv) rfl
  refine I.laid (fun d o e => Heap.get?_push_of_some _ e) (Nat.le_refl _) ⟨⟨_, _, pm, ctv, at_⟩, ⟨_, at_⟩, ?_⟩
  rintro h1 h2 ⟨od, sl, p, t, e⟩ st
  exact ⟨od, sl, p, t, st _ e⟩
theorem pe_lam {P c : Addr} {q : Str} {ps : Arguments} {b : Expr} {sc : Scope} {pos : Pos} (hl : lamB ps b sc = true) (TB : TabB X.base X.mg c P) (hcode : X.env.code = .ref c) (hq : q = X.env.qual ++ "<lambda>") : PE X (.Lambda ps b sc pos) (tLam1 P q ps b sc) := by
  subst hq
  obtain ⟨⟨a, rfl, la⟩, _, _, _, _, nf⟩ := lamB_use hl
  have hcl : ∀ env : Env, cloFrom env.cells sc.names [] = [] := fun env => clo_nil _ _ fun y hy => (nf y hy).2
  refine ⟨fun pins s σ H Q I h => ?_⟩
  obtain ⟨t0, ⟨hP, ht, ha⟩, h⟩ := h
  refine PySem.W.kla_eval (by rfl) ?_
  have bP : s.heap.BuiltinsAt X.mg P := TB.bm.keeps I.bk
  have hP' := I.hok P _ hP
  have clo : closureFor sc X.env = pure [] := by
    have := closure_ok (scope := sc) (env := X.env) (fun y hy e => absurd e (nf y hy).2)
    rwa [hcl] at this
  cases hc : codeAmong pos t0.toList with
  | none =>
    refine PySem.W.kla_makeFunction (mg := X.mg) (c := c) (P := P) (ps := t0) clo I.ok.glob (I.mod.glob.keeps I.bk) hcode (TB.code.keeps I.bk) hP' ht hc TB.gP bP ?_
    intro c2 ctv h2 tk hx hge hlt hrec htb
    obtain ⟨c3, oc, vs, t, e3, k1, k2, k3⟩ := hrec
    obtain rfl := Value.ref.inj e3
    have nC : H c2 = none := I.hok.fresh hge
    have nP : P ≠ c2 := ne_of_none hP nC
    have J := inv_table (t' := tk) (more := #[rawInt pos.line, rawInt pos.col, .ref c2]) (h' := h2) I hP (fun d o hd e => hx d o hd e) htb hge ⟨oc, vs, t, k1, k2, k3⟩
    have nF := J.hok.fresh (Nat.le_refl h2.objs.size)
    have J2 := lam_laid (q := X.env.qual ++ "<lambda>") (ps := ⟨[], [a], none, [], [], none, []⟩) (b := b) (sc := sc) (c := c2) (pm := (X.mg "__name__").getD .none) (ctv := ctv) (t' := tk) J
    have kp : ∀ d o, d ≠ P → H d = some o → upd (upd (upd H P (.tbl (t0 ++ #[rawInt pos.line, rawInt pos.col, .ref c2]))) c2 (CodeO c2 (X.env.qual ++ "<lambda>"))) h2.objs.size (FnL h2.objs.size (X.env.qual ++ "<lambda>") ⟨[], [a], none, [], [], none, []⟩ b sc c2) d = some o := by
      intro d o hd e
      have e1 : upd (upd H P (.tbl (t0 ++ #[rawInt pos.line, rawInt pos.col, .ref c2]))) c2 (CodeO c2 (X.env.qual ++ "<lambda>")) d = some o := by rw [upd_ne (ne_of_none e nC), upd_ne hd]; exact e
      rw [upd_ne (ne_of_none e1 nF)]
      exact e1
    have atP : upd (upd (upd H P (.tbl (t0 ++ #[rawInt pos.line, rawInt pos.col, .ref c2]))) c2 (CodeO c2 (X.env.qual ++ "<lambda>"))) h2.objs.size (FnL h2.objs.size (X.env.qual ++ "<lambda>") ⟨[], [a], none, [], [], none, []⟩ b sc c2) P = some (.tbl (t0 ++ #[rawInt pos.line, rawInt pos.col, .ref c2])) := by
      have e1 : upd (upd H P (.tbl (t0 ++ #[rawInt pos.line, rawInt pos.col, .ref c2]))) c2 (CodeO c2 (X.env.qual ++ "<lambda>")) P = some (.tbl (t0 ++ #[rawInt pos.line, rawInt pos.col, .ref c2])) := by rw [upd_ne nP, upd_same]
      rw [upd_ne (ne_of_none e1 nF)]
      exact e1
    have atC : upd (upd (upd H P (.tbl (t0 ++ #[rawInt pos.line, rawInt pos.col, .ref c2]))) c2 (CodeO c2 (X.env.qual ++ "<lambda>"))) h2.objs.size (FnL h2.objs.size (X.env.qual ++ "<lambda>") ⟨[], [a], none, [], [], none, []⟩ b sc c2) c2 = some (CodeO c2 (X.env.qual ++ "<lambda>")) := by
      rw [upd_ne (Nat.ne_of_lt hlt), upd_same]
    have tl : (t0 ++ #[rawInt pos.line, rawInt pos.col, .ref c2]).toList = t0.toList ++ [rawInt pos.line, rawInt pos.col, .ref c2] := by simp
    refine ⟨.ref h2.objs.size, _, J2, rfl, h h2.objs.size c2 _ ⟨kp, I.hok.fresh (Nat.le_trans hge (Nat.le_of_lt hlt)), upd_same, atC, .inl nC, _, ⟨atP, ?_, fun p cv hcv => ?_⟩, fun p cv hcv => ?_⟩⟩
    · rw [tl]
      exact PySem.TriplesOk_snoc _ _ _ _ ht
    · rw [tl] at hcv
      rcases among_new _ ht hcv with e | e
      · exact ⟨c2, e, atC⟩
      · obtain ⟨c0, e1, e2⟩ := ha p cv e
        exact ⟨c0, e1, kp _ _ (fun y => by rw [y, hP] at e2; cases e2) e2⟩
    · rw [tl] at hcv
      exact among_new _ ht hcv
  | some cv =>
    obtain ⟨c2, rfl, hco⟩ := ha pos cv hc
    refine PySem.W.kla_makeFunctionHit (mg := X.mg) (c := c) (P := P) (ps := t0) clo I.ok.glob (I.mod.glob.keeps I.bk) hcode (TB.code.keeps I.bk) hP' ht hc bP ?_
    intro ctv h2 tk hx hsz
    have J : Inv X pins σ H { s with heap := h2, toks := tk } := I.kept hx
    have nF := J.hok.fresh (Nat.le_refl h2.objs.size)
    have J2 := lam_laid (q := X.env.qual ++ "<lambda>") (ps := ⟨[], [a], none, [], [], none, []⟩) (b := b) (sc := sc) (c := c2) (pm := (X.mg "__name__").getD .none) (ctv := ctv) (t' := tk) J
    have kp : ∀ d o, H d = some o → upd H h2.objs.size (FnL h2.objs.size (X.env.qual ++ "<lambda>") ⟨[], [a], none, [], [], none, []⟩ b sc c2) d = some o := fun d o e => by
      rw [upd_ne (ne_of_none e nF)]
      exact e
    refine ⟨.ref h2.objs.size, _, J2, rfl, h h2.objs.size c2 _ ⟨fun d o _ e => kp d o e, nF, upd_same, kp _ _ hco, .inr ⟨pos, hc⟩, t0, ⟨kp _ _ hP, ht, fun p cv hcv => ?_⟩, fun p cv hcv => .inr hcv⟩⟩
    obtain ⟨c0, e1, e2⟩ := ha p cv hcv
    exact ⟨c0, e1, kp _ _ e2⟩
/-- the lambdas of the def x may be made: its code object's table stands -/
structure LmOk (X : Cx) (x q : Str) : Prop where
  code : X.env.code = .ref (He.cT X.K (x, none)).1
  tb : TabB X.base X.mg (He.cT X.K (x, none)).1 (He.cT X.K (x, none)).2
  q : q = X.env.qual ++ "<lambda>"
theorem be_lam {h : Nat} {x q : Str} {ps : Arguments} {b : Expr} {sc : Scope} {pos : Pos} (hl : lamB ps b sc = true) (L : LmOk X x q) : BE X tab z W (.Lambda ps b sc pos) (den (.lam h x q)) := by
  refine pe_w (pe_lam hl L.tb L.code L.q) fun σ H Q ⟨g, e, m, rl, so, p⟩ => ?_
  simp only [den] at p
  split at p
  · rename_i x' q' hm
    split at p
    · rename_i hx
      obtain ⟨rfl, rfl⟩ := hx
      have hlt : h < g.ph.length := by rw [rl.len]; exact (List.getElem?_eq_some_iff.mp hm).1
      have ha : g.ph[h]? = some g.ph[h] := List.getElem?_eq_getElem hlt
      obtain ⟨eP, t0, h1, h2, h3⟩ := rl.cell h _ _ ha hm
      have inP : (He.cT X.K (x', none)).2 ∈ g.ph := by
        have : g.ph[h] = (He.cT X.K (x', none)).2 := eP
        rw [← this]
        exact List.getElem_mem hlt
      have h1 : H g.ph[h] = some (.tbl t0) := h1
      have eP' : g.ph[h] = (He.cT X.K (x', none)).2 := eP
      rw [eP'] at h1 ha
      refine ⟨t0, ⟨h1, h2, fun pos cv hc => ?_⟩, fun f c H1 Mk => ?_⟩
      · obtain ⟨c, e1, e2, _⟩ := h3 pos cv hc
        exact ⟨c, e1, e2⟩
      · obtain ⟨t1, ⟨k1, k2, k3⟩, k4⟩ := Mk.tb
        have ne : ∀ {a o}, H a = some o → (∀ ps, o ≠ .tbl ps) → a ≠ (He.cT X.K (x', none)).2 := fun {a o} e n z => by
          rw [z, h1] at e
          cases e
          exact n _ rfl
        have hs : ∀ a, H a ≠ none → H1 a ≠ none := fun a n => by
          by_cases z : a = (He.cT X.K (x', none)).2
          · rw [z, k1]
            exact fun z => nomatch z
          · cases q : H a with
            | none => exact absurd q n
            | some o => rw [Mk.keep a o z q]; exact fun z => nomatch z
        have st : Stp g H g H1 := ⟨⟨[], by simp⟩, fun a o e n => ⟨Mk.keep a o (fun z => n (by rw [z]; exact inP)) e, Iff.rfl⟩, hs, fun a xs e => Mk.keep a _ (ne e fun _ z => nomatch z) e, fun a o u e => Mk.keep a _ (ne e fun _ z => nomatch z) e, fun _ _ n => n⟩
        have nA : ∀ c0, H c0 = none → ¬ g.A c0 := fun c0 n => rl.fresh n
        have old : ∀ pos c0, codeAmong pos t0.toList = some (.ref c0) → ¬ g.A c0 := fun pos c0 hc => by
          obtain ⟨c, e1, _, e3⟩ := h3 pos _ hc
          obtain rfl := Value.ref.inj e1
          exact e3
        have nC : ¬ g.A c := by
          rcases Mk.cn with n | ⟨pos, hc⟩
          · exact nA c n
          · exact old pos c hc
        have re : Rel (sg X tab) g m H1 := by
          refine ⟨rl.len, rl.nd, fun a h => hs a (rl.has a h), fun n a c' e1 e2 => ?_⟩
          by_cases z : a = (He.cT X.K (x', none)).2
          · subst z
            have en : n = h := by
              have l1 := (List.getElem?_eq_some_iff.mp e1)
              obtain ⟨l2, l3⟩ := l1
              exact (List.getElem_inj rl.nd).mp (l3.trans eP'.symm)
            subst en
            rw [hm] at e2
            cases e2
            refine ⟨rfl, t1, k1, k2, fun pos cv hcv => ?_⟩
            obtain ⟨c0, e3, e4⟩ := k3 pos cv hcv
            refine ⟨c0, e3, e4, ?_⟩
            rcases k4 pos cv hcv with w | w
            · rw [e3] at w
              rw [Value.ref.inj w]
              exact nC
            · rw [e3] at w
              exact old pos c0 w
          · exact cell_mono st (fun o e => Mk.keep a o z e) (rl.cell n a c' e1 e2)
        exact p g H1 st re (.ref f) ⟨f, rfl, nA f Mk.new, q', ps, b, sc, c, Mk.fn, hl, nC, Mk.cd⟩
    · exact p.elim
  · exact p.elim
end
end BV
/-! sorted(set(xs)), xs a list of ints -/
namespace BV
open PySem PySem.Spec L2 PyProof.Rows
abbrev nSet (w : World) : Obj := { cls := .type "set", dict := none, data := .set #[] 0 (.fresh 0 0 (!w.params.followText "set-order")) }
section
variable {P : Program} {w : World} {A : Around} {E : Value → Shared → Prop} {s : Shared}
set_option maxHeartbeats 6400000 in
theorem set_ints {l : Addr} {items : Array Value} (ns : List Int) {Q : Value → Shared → Prop} (hh : A.handled = none) (hl : s.heap.IsList l items) (hit : IntsAre items.toList ns) (hb : ns.length + 1 < scanBound)
    (h : ∀ (h' : Heap) (tk c : Nat), SetR w h' s.heap.objs.size (fun j => decide (j ∈ ns)) c → c ≤ ns.length → (∀ b o, s.heap.get? b = some o → h'.get? b = some o) → Q (.ref s.heap.objs.size) { s with heap := h', toks := tk }) : wpAny (model P w) A (call (.type "set") [.ref l]) Q E s := by
  have sz : items.size = ns.length := by have q := IntsAre.length hit; rwa [Array.length_toList] at q
  obtain ⟨c, tl, hmro⟩ := F.called_set.mro
  have hmade := F.called_set.made; have hsub := F.called_set.sub
  refine wpAny_call (codeAny_of_tree ?_); show wpAny _ _ (callAny (.type "set") _) _ _ _
  refine wpAny_pure ⟨Code.quiet_builtin _ (by decide +kernel), codeAny_builtin F.entry_type_call ?_⟩; rw [Around.under_plain (weight_type_call_type "set" [.ref l] []) rfl]
  have h1 := F.called_set.notType; have h2 := F.called_set.canCreate; have hct := F.typeCall_set_1 (.ref l)
  repeat (any_goals (first | assumption | wp_step))
  refine codeAny_mono (code_set_led1 (.ref l) (E := E) (Q₁ := fun v t => v = .ref s.heap.objs.size ∧ t = { s with heap := s.heap.push (nSet w) }) ⟨rfl, rfl⟩) fun r t hr => ?_
  cases r with
  | error e => exact hr
  | ok fl =>
    cases fl with
    | ret v =>
      obtain ⟨rfl, rfl⟩ := hr
      have hS : (s.heap.push (nSet w)).get? s.heap.objs.size = some (nSet w) := Heap.get?_push_size _ rfl
      have hT : Shared.TypeIs { s with heap := s.heap.push (nSet w) } (.ref s.heap.objs.size) "set" := ⟨_, hS, rfl⟩
      have hli := F.called_set.init.lookup; have hbi := F.called_set.init.bind (.ref s.heap.objs.size)
      repeat (any_goals (first | assumption | wp_step))
      refine codeAny_mono (codeAny_call_builtin (R := wants (fun r t => r = .none ∧ ∃ g tk c, t = { s with heap := g, toks := tk } ∧ SetR w g s.heap.objs.size (fun j => decide (j ∈ ns)) c ∧ c ≤ ns.length ∧ (∀ b o, s.heap.get? b = some o → g.get? b = some o)) E)
        F.called_set.init.plain F.entry_set_init (check_set_init_1 hT ?_)) fun r' t' hr' => ?_
      · obtain ⟨ob, hob, hcl, k, hdl⟩ := hl
        obtain ⟨oc, od, oa, os⟩ := ob
        dsimp only at hcl hdl
        subst hcl hdl
        have hb2 : (s.heap.push (nSet w)).get? l = some { cls := .type "list", dict := od, data := .seq items k, slots := os } := Heap.get?_push_of_some _ hob
        have q1 := F.sub_list_set; have q2 := F.sub_list_frozenset
        have q3 : (Value.type "list" == Value.type "dict") = false := by decide
        have hl2 : (s.heap.push (nSet w)).IsList l items := ⟨_, hb2, rfl, k, rfl⟩
        unfold Builtin.«set.__init__» noKeywords Builtin.Frozenset.updateFrom; generalize hPI : pyIter = PI
        wp_walk
        subst hPI
        refine wpAny_pyIter_list hl2 ?_
        refine wpAny_bind (wpAny_runValue ?_)
        have lS : l < s.heap.objs.size := Heap.lt_size hob
        have h3 : A.in1.in1.in1.handled = none := by simp [hh]
        have nI : l ≠ (s.heap.push (nSet w)).objs.size := by rw [Heap.size_push]; exact Nat.ne_of_lt (Nat.lt_succ_of_lt lS)
        have nS : s.heap.objs.size ∉ [(s.heap.push (nSet w)).objs.size, l] := by
          rw [Heap.size_push]
          simp only [List.mem_cons, List.not_mem_nil, or_false, not_or]
          exact ⟨Nat.ne_of_lt (Nat.lt_succ_self _), Nat.ne_of_gt lS⟩
        have val : ∀ (i : Nat) (v : Value), items[i]? = some v → ∃ z t, ns[i]? = some z ∧ v = .int z t := fun i v hv => by
          have hi : i < ns.length := by rw [← sz]; exact (Array.getElem?_eq_some_iff.mp hv).1
          obtain ⟨t, e⟩ := PyProof.Rows.IntsAre.int_at hit i v (by rw [Array.getElem?_toList]; exact hv)
          exact ⟨ns[i], t, List.getElem?_eq_getElem hi, by rw [e, List.getD_eq_getElem?_getD, List.getElem?_eq_getElem hi] <;> rfl⟩
        refine set_update_ints ((Walks.list h3 _ l nI items).toS) s.heap.objs.size nS ns sz hb val (items.size - 0) 0 _ (by omega) (Nat.zero_le _) ⟨⟨_, Heap.get?_push_size _ rfl, rfl, rfl⟩, (hl2.push _)⟩ ⟨0, Nat.le_refl 0, setR_new_at (Heap.get?_push_of_some _ hS)⟩ fun t c hm hc hR => ?_
        obtain ⟨g, gn, dr, tk, os'⟩ := t
        have e1 : gn = s.gens := hm.gens; have e2 : dr = s.drawn := hm.drawn; have e3 : os' = s.os := hm.os
        subst e1 e2 e3
        show wpAny _ _ _ _ _ _
        refine wpAny_pure ?_; show wpAny _ _ (ret Value.none) _ _ _
        rw [sz] at hc
        refine wpAny_pure ⟨rfl, g, tk, c, rfl, hR, hc, fun b o e => ?_⟩
        have b0 : b < s.heap.objs.size := Heap.lt_size e
        refine hm.heap b o ?_ (Heap.get?_push_of_some _ (Heap.get?_push_of_some _ e))
        rw [Heap.size_push]
        simp only [List.mem_cons, List.not_mem_nil, or_false, not_or]
        exact ⟨Nat.ne_of_lt b0, Nat.ne_of_lt (Nat.lt_succ_of_lt b0)⟩
      · cases r' with
        | error e => exact hr'
        | ok f2 =>
          cases f2 with
          | ret r =>
            obtain ⟨rfl, g, tk, c, rfl, hR, hc, hk⟩ := hr'
            repeat (any_goals (first | assumption | wp_step))
            exact h _ _ _ hR hc hk
          | _ => exact hr'.elim
    | _ => exact hr.elim
end
/-! ### as rules -/
/-- the set of such ints at a -/
def SetX (w : World) (ns : List Int) (a : Addr) : HO := .ext fun h => ∃ c, c ≤ ns.length ∧ SetR w h a (fun j => decide (j ∈ ns)) c
section
variable {X : Cx}
theorem cr_setL (hc : X.calm = true) : CallR X (.type "set") (fun vs H Q => ∃ (p : Addr) (ns : List Int), vs = [.ref p] ∧ SqL X.K H p (ns.map V.int) ∧ ns.length ≤ 1000 ∧ ∀ a, H a = none → Q (.ref a) (upd H a (SetX X.w ns a))) := by
  intro pins s σ H vs us Q I r ⟨p, ns, e, hs, hl, q⟩
  subst e
  obtain ⟨its, rv, hp, hz⟩ := I.list hs
  rw [Vals.ref1 r]
  refine set_ints ns (I.ok.hd hc) hp.isList (by simpa using rv.ints) (by unfold scanBound; omega) fun h' tk c R hn k => ?_
  have fr : H s.heap.objs.size = none := I.hok.fresh (Nat.le_refl _)
  have hob : ∃ o, h'.get? s.heap.objs.size = some o := by
    obtain ⟨o, es, ep, t, ho, _⟩ := R
    exact ⟨o, ho⟩
  refine ⟨.ref s.heap.objs.size, _, I.laidN (t' := tk) (o := SetX X.w ns s.heap.objs.size) k ?_ fr (show _ ∧ _ ∧ _ from ⟨⟨c, hn, R⟩, hob, fun _ _ ⟨c, hn, R⟩ k => ⟨c, hn, R.at k⟩⟩), rfl, q _ fr⟩
  cases e : s.heap.get? s.heap.objs.size with
  | none => rfl
  | some o => exact absurd (Heap.lt_size e) (Nat.lt_irrefl _)
theorem cr_sortedX (hc : X.calm = true) : CallR X (.builtin "sorted") (fun vs H Q => ∃ (a : Addr) (ns : List Int), vs = [.ref a] ∧ H a = some (SetX X.w ns a) ∧ ns.length < 64 ∧ ∀ (ns' : List Int) (p : Addr), ns'.Pairwise (· < ·) → (∀ k, k ∈ ns' ↔ k ∈ ns) → H p = none → Q (.ref p) (upd H p (.lst (ns'.map V.int)))) := by
  intro pins s σ H vs us Q I r ⟨a, ns, e, hs, hl, q⟩
  subst e
  obtain ⟨⟨c, hn, R⟩, _, _⟩ := I.hok a _ hs
  rw [Vals.ref1 r]
  refine sorted_set R (I.ok.hd hc) (by omega) fun s' p out c2 ns' k eg eo hz hp hi pw hm hlen => ?_
  have fr : H p = none := I.hok.fresh hz
  have len : (ns'.map V.int).length ≤ sizeLine := by
    rw [List.length_map, hlen, sizeLine_eq]
    omega
  have np : s.heap.get? p = none := by
    cases e : s.heap.get? p with
    | none => rfl
    | some o => exact absurd (Heap.lt_size e) (Nat.not_lt.mpr hz)
  have hob : ObjOk X.prog X.w (upd H p (.lst (ns'.map V.int))) s'.heap p (.lst (ns'.map V.int)) := ⟨len, out.toList, c2, vals_of_ints hi, hp⟩
  exact ⟨.ref p, _, I.call' (ch := []) eo (Un.laidN k np fr) (I.hok.laidN k fr hob) (by rw [eg]; exact I.bare) (fun _ z => nomatch z), rfl, q ns' p pw (fun k => (hm k).trans decide_eq_true_iff) fr⟩
end
/-! ### the denotation -/
theorem insU_mem {x y : Int} : ∀ {l : List Int}, y ∈ insU x l ↔ y = x ∨ y ∈ l
  | [] => by simp [insU]
  | z :: r => by
    unfold insU
    split
    · simp
    · split
      · rename_i e
        subst e
        simp
      · rw [List.mem_cons, insU_mem, List.mem_cons]
        constructor
        · rintro (h | h | h)
          · exact .inr (.inl h)
          · exact .inl h
          · exact .inr (.inr h)
        · rintro (h | h | h)
          · exact .inr (.inl h)
          · exact .inl h
          · exact .inr (.inr h)
theorem insU_lt {x : Int} : ∀ {l : List Int}, l.Pairwise (· < ·) → (insU x l).Pairwise (· < ·)
  | [], _ => List.pairwise_singleton _ _
  | z :: r, h => by
    obtain ⟨h1, h2⟩ := List.pairwise_cons.mp h
    unfold insU
    split
    · rename_i c
      refine List.pairwise_cons.mpr ⟨fun y hy => ?_, h⟩
      rcases List.mem_cons.mp hy with rfl | hy
      · exact c
      · have := h1 y hy
        omega
    · split
      · exact h
      · refine List.pairwise_cons.mpr ⟨fun y hy => ?_, insU_lt h2⟩
        rcases insU_mem.mp hy with rfl | hy
        · omega
        · exact h1 y hy
theorem srtU_mem {y : Int} : ∀ {l : List Int}, y ∈ srtU l ↔ y ∈ l
  | [] => Iff.rfl
  | x :: l => by
    show y ∈ insU x (srtU l) ↔ _
    rw [insU_mem, srtU_mem, List.mem_cons]
theorem insU_len (x : Int) : ∀ l : List Int, (insU x l).length ≤ l.length + 1
  | [] => Nat.le_refl _
  | y :: r => by
    unfold insU
    split
    · exact Nat.le_refl _
    · split
      · exact Nat.le_succ _
      · have := insU_len x r
        rw [List.length_cons, List.length_cons]
        omega
theorem srtU_len : ∀ l : List Int, (srtU l).length ≤ l.length
  | [] => Nat.le_refl _
  | x :: l => by
    have h1 := insU_len x (srtU l)
    have h2 := srtU_len l
    show (insU x (srtU l)).length ≤ _
    rw [List.length_cons]
    omega
theorem srtU_lt : ∀ l : List Int, (srtU l).Pairwise (· < ·)
  | [] => .nil
  | x :: l => insU_lt (srtU_lt l)
theorem lt_same : ∀ {a b : List Int}, a.Pairwise (· < ·) → b.Pairwise (· < ·) → (∀ k, k ∈ a ↔ k ∈ b) → a = b
  | [], [], _, _, _ => rfl
  | [], y :: b, _, _, h => absurd ((h y).mpr List.mem_cons_self) (by simp)
  | x :: a, [], _, _, h => absurd ((h x).mp List.mem_cons_self) (by simp)
  | x :: a, y :: b, ha, hb, h => by
    obtain ⟨a1, a2⟩ := List.pairwise_cons.mp ha
    obtain ⟨b1, b2⟩ := List.pairwise_cons.mp hb
    have e : x = y := by
      rcases List.mem_cons.mp ((h x).mp List.mem_cons_self) with e | e
      · exact e
      · rcases List.mem_cons.mp ((h y).mpr List.mem_cons_self) with e2 | e2
        · exact e2.symm
        · have := b1 x e
          have := a1 y e2
          omega
    subst e
    rw [lt_same a2 b2 fun k => ?_]
    constructor
    · intro hk
      rcases List.mem_cons.mp ((h k).mp (List.mem_cons_of_mem _ hk)) with e | e
      · have := a1 k hk
        omega
      · exact e
    · intro hk
      rcases List.mem_cons.mp ((h k).mpr (List.mem_cons_of_mem _ hk)) with e | e
      · have := b1 k hk
        omega
      · exact e
section
variable {X : Cx} {tab : List (Str × List Str)} {z : Option Xz} {W : WX}
theorem be_sset {p p2 pos pos2 : Pos} {a : Expr} {f : Sl → Sto → Rs T} (hc : X.calm = true) (g1 : Gl X (Str.ofString "sorted")) (m1 : X.mg (Str.ofString "sorted") = none) (g2 : Gl X (Str.ofString "set")) (m2 : X.mg (Str.ofString "set") = none) (hs : ∀ x p, a ≠ .Starred x p) (h : BE X tab z W a f) :
    BE X tab z W (.Call (.Name (Str.ofString "sorted") p) [.Call (.Name (Str.ofString "set") p2) [a] [] pos2] [] pos) (fun e m => (f e m).bind fun t m1 => ssetT t m1) := by
  have i := pe_callTy (p := p2) (pos := pos2) (cr_setL hc) g2 m2 (by decide +kernel) (pa_cons h pa_nil (star_of hs)) (by decide +kernel) (by decide +kernel) (star_of hs) rfl
  refine pe_w (pe_callB (cr_sortedX hc) g1 m1 (by decide +kernel) (pa_cons i pa_nil rfl) (by decide +kernel) (by decide +kernel) rfl rfl) fun σ H Q ⟨g, e, m, rl, so, p⟩ => ?_
  refine lift_go rl so p fun g1 H1 x m1 v r1 so1 s1 hv p1 => ?_
  unfold ssetT at p1
  split at p1
  · rename_i xs e1
    obtain ⟨b, vs, rfl, k, r, l⟩ := lstOf_rep r1 e1 hv
    split at p1
    · rename_i ns e2
      split at p1
      · rename_i hl
        obtain rfl := ints_rep e2 r
        refine ⟨b, ns, rfl, SqL.of k, by omega, fun a ha => ⟨a, ns, rfl, upd_same, by omega, fun ns' p pw hm hp => ?_⟩⟩
        have en : ns' = srtU ns := lt_same pw (srtU_lt ns) fun k => (hm k).trans srtU_mem.symm
        subst en
        have x1 := ext_upd (o := SetX X.w ns a) ha
        exact PoT.lst (r1.ext x1) hp (Po.later (Stp.ext x1) p1) (by
          have : (srtU ns).length ≤ ns.length := srtU_len ns
          rw [List.length_map]
          omega) (reps_ints _)
      · exact p1.elim
    · exact p1.elim
  · exact p1.elim
end
end BV
/-! a def that is handed the exception being handled, called within its suite -/
namespace BV
open PySem PySem.Spec L2 PyProof.Rows
/-- it raises nothing -/
structure FnX (P : Program) (w : World) (K : PySem.W.Frag) (mg : Str → Option Value) (base : Heap) (tab : List (Str × List Str)) (k : Nat) (f : Addr) (fd : FuncData) (ps : List Str) (F : Fn) : Prop where
  one : ps.length = 1
  run : ∀ (A : Around) (outer : List Env) (s : Shared) (H : Hp) (args : Args) (g : Gh) (m : Sto) (c : Nat) (xs : List T) (a : Addr) (oe : Obj) (cls : Value) (d : Option Addr) (Q : VK),
    L2H.RoomH k A → A.handled = some (.ref a) → Zc cls d oe → (∃ vs, oe.data = .fields vs) → L2H.PinOk outer H s (a, oe) → Env0 P w K mg base A outer s H → BindsTo s fd args (ps.zip [.ref a]) →
    Rel ⟨K, mg, tab⟩ g m H → repX ⟨K, mg, tab⟩ g H c xs cls d → PoT ⟨K, mg, tab⟩ g H Q (fun _ _ _ => False) ((F [.exn c xs] m).nox) →
    codeAny (model P w) A (.call (.ref f) args) (fun r s2 => ∃ u, r = .ok (.ret u) ∧ CE outer P w H s Q u s2) s
section
variable {P : Program} {w : World} {K : PySem.W.Frag} {mg : Str → Option Value} {base : Heap} {tab : List (Str × List Str)}
theorem Po.nox {S : Sg} {g : Gh} {H : Hp} {α : Type} {R : Gh → Hp → α → Sto → Prop} {W W' : Value → Option Addr → Hp → Prop} {r : Rs α} (h : Po S g H R W r.nox) : Po S g H R W' r.nox := by
  cases r with
  | ok a m => exact h
  | exc c xs m => exact h.elim
  | bad => exact h.elim
end
end BV
/-! the checker is right: expressions -/
namespace BV
open PySem PySem.Spec L2
structure FnB' (P : Program) (w : World) (K : PySem.W.Frag) (mg : Str → Option Value) (base : Heap) (tab : List (Str × List Str)) (k : Nat) (x : Str) (n : Nat) (f : Fn) : Prop where
  ok : ∃ ad fd ps, mg x = some (.ref ad) ∧ PySem.W.keepIn K (.ref ad) = true ∧ ps.length = n ∧ FnOk P w K mg base (L2.CX P w) k ad fd ps (spB ⟨K, mg, tab⟩ f) ∧ Binds K fd ps []
structure MkB' (P : Program) (w : World) (K : PySem.W.Frag) (mg : Str → Option Value) (base : Heap) (tab : List (Str × List Str)) (k : Nat) (x : Str) (c : Nat) (f : Fn) : Prop where
  ok : ∃ ks C fI fd ps, tab[c]? = some (x, ks) ∧ mg x = some (.ref C) ∧ Mk K C fI ∧ FnOk P w K mg base (L2.CX P w) k fI fd ps (spB ⟨K, mg, tab⟩ f) ∧ Binds K fd ps []
def FldOk' (K : PySem.W.Frag) (mg : Str → Option Value) (tab : List (Str × List Str)) (f : Str) (fs : List (Nat × Nat)) : Prop :=
  ∀ c i, fs.lookup c = some i → ∃ n ks, tab[c]? = some (n, ks) ∧ ks[i]? = some f ∧ ks.Nodup ∧ ks.length ≤ 900 ∧ ∀ C, mg n = some (.ref C) → Cls K C ∧ NoAttr K C f
def MethB' (P : Program) (w : World) (K : PySem.W.Frag) (mg : Str → Option Value) (base : Heap) (tab : List (Str × List Str)) (k : Nat) (m : Str) (fs : List (Nat × Fn)) : Prop :=
  ∀ c F, fs.lookup c = some F → ∃ n ks, tab[c]? = some (n, ks) ∧ m ∉ ks ∧ ∀ C, mg n = some (.ref C) → Cls K C ∧ ∃ f fd ps,
    Meth K C m f ∧ FnOk P w K mg base (L2.CX P w) k f fd ps (spB ⟨K, mg, tab⟩ F) ∧ Binds K fd ps []
def MethD' (P : Program) (w : World) (K : PySem.W.Frag) (mg : Str → Option Value) (base : Heap) (tab : List (Str × List Str)) (k : Nat) (m : Str) (fs : List (Nat × Fn)) (d : T) : Prop :=
  ∀ c F, fs.lookup c = some F → ∃ n ks, tab[c]? = some (n, ks) ∧ m ∉ ks ∧ ∀ C, mg n = some (.ref C) → Cls K C ∧ ∃ f fd ps ds v,
    Meth K C m f ∧ FnOk P w K mg base (L2.CX P w) k f fd ps (spB ⟨K, mg, tab⟩ F) ∧ Binds K fd ps ds ∧ Vals [v] ds ∧ rep0 K d v
structure RoeB' (P : Program) (w : World) (K : PySem.W.Frag) (mg : Str → Option Value) (base : Heap) (tab : List (Str × List Str)) (k : Nat) (x : Str) (c : Nat) (d : Option Int) : Prop where
  ok : ∃ f C fI fd ps, tab[c]? = some (x, [f]) ∧ mg x = some (.ref C) ∧ OexF K C fI f ∧ FnOk P w K mg base (L2.CX P w) k fI fd ps (spO K f) ∧ (match d with
    | none => Binds K fd ps []
    | some i => ∃ ds, Vals [V.int i] ds ∧ Binds K fd ps ds)
structure MkD' (P : Program) (w : World) (K : PySem.W.Frag) (mg : Str → Option Value) (base : Heap) (tab : List (Str × List Str)) (k : Nat) (x : Str) (c : Nat) (f : Fn) (d : T) : Prop where
  ok : ∃ ks C fI fd ps v ds, tab[c]? = some (x, ks) ∧ mg x = some (.ref C) ∧ Mk K C fI ∧ FnOk P w K mg base (L2.CX P w) k fI fd ps (spB ⟨K, mg, tab⟩ f) ∧ Binds K fd ps ds ∧ Vals [v] ds ∧ rep0 K d v
structure RseOk' (K : PySem.W.Frag) (mg : Str → Option Value) (tab : List (Str × List Str)) (x : Str) (c : Nat) : Prop where
  ok : ∃ ks C, tab[c]? = some (x, ks) ∧ mg x = some (.ref C) ∧ PySem.W.excIn K C [.type "ValueError", .type "Exception", .type "BaseException", .type "object"] "ValueError.__new__" = true ∧ PySem.W.keepIn K (.ref C) = true ∧ PySem.W.subIn K (.ref C) (.type "BaseException") = some true ∧ PySem.W.typeIn K (.ref C) = some (.type "type")
/-- a class by its name -/
structure ClsN (K : PySem.W.Frag) (mg : Str → Option Value) (x : Str) (v : V) (u : Value) : Prop where
  k : ClsV v u
  ok : mg x = some u ∨ (mg x = none ∧ bootBuiltins x = some u ∧ x ≠ "__name__")
def XisOk (K : PySem.W.Frag) (mg : Str → Option Value) (tab : List (Str × List Str)) (x : Str) (cs : List (Nat × Bool)) : Prop :=
  ∃ v u, ClsN K mg x v u ∧ ∀ c b, cs.lookup c = some b → ∃ n ks, tab[c]? = some (n, ks) ∧ ∀ D, mg n = some (.ref D) → PySem.W.kitOne K (.ref D) u = some b ∧ ExcC K D
def XflOk (K : PySem.W.Frag) (mg : Str → Option Value) (tab : List (Str × List Str)) (f : Str) (cs : List Nat) : Prop :=
  ∀ c ∈ cs, ∃ n, tab[c]? = some (n, [f]) ∧ ∀ C, mg n = some (.ref C) → XfC K C ∧ PySem.W.findIn K (.ref C) f = some none
def TrsOk (K : PySem.W.Frag) (mg : Str → Option Value) (tab : List (Str × List Str)) (x : Str) (cs : List (Nat × Bool)) : Prop :=
  ∃ v u, ClsN K mg x v u ∧ ∀ c b, cs.lookup c = some b → ∃ n ks, tab[c]? = some (n, ks) ∧ ∀ D, mg n = some (.ref D) → PySem.W.exmOne K (.ref D) u = some b
/-- a def that is handed the exception being handled -/
structure HotB' (P : Program) (w : World) (K : PySem.W.Frag) (mg : Str → Option Value) (base : Heap) (tab : List (Str × List Str)) (k : Nat) (x : Str) (f : Fn) : Prop where
  ok : ∃ ad fd ps, mg x = some (.ref ad) ∧ PySem.W.keepIn K (.ref ad) = true ∧ FnX P w K mg base tab k ad fd ps f ∧ Binds K fd ps []
/-- what stands still -/
structure GOk (G : Ctx) (P : Program) (w : World) (K : PySem.W.Frag) (mg : Str → Option Value) (base : Heap) (tab : List (Str × List Str)) (k : Nat) : Prop where
  fns : ∀ p ∈ G.fns, ∃ j, j ≤ k ∧ FnB' P w K mg base tab j p.1 p.2.1 p.2.2
  mks : ∀ p ∈ G.mks, ∃ j, j + 1 ≤ k ∧ MkB' P w K mg base tab j p.1 p.2.1 p.2.2.2
  mths : ∀ p ∈ G.mths, ∃ j, j ≤ k ∧ MethB' P w K mg base tab j p.1 p.2
  flds : ∀ p ∈ G.flds, FldOk' K mg tab p.1 p.2
  rses : ∀ p ∈ G.rses, RseOk' K mg tab p.1 p.2
  roes : ∀ p ∈ G.roes, ∃ j, j + 1 ≤ k ∧ RoeB' P w K mg base tab j p.1 p.2 none
  roed : ∀ p ∈ G.roed, ∃ j, j + 1 ≤ k ∧ RoeB' P w K mg base tab j p.1 p.2.1 (some p.2.2)
  bis : ∀ x ∈ G.bis, mg x = none
  xis : ∀ p ∈ G.xis, XisOk K mg tab p.1 p.2
  xfl : ∀ p ∈ G.xfl, XflOk K mg tab p.1 p.2
  trs : ∀ p ∈ G.trs, TrsOk K mg tab p.1 p.2
  csts : ∀ p ∈ G.csts, ∃ u v, mg p.1 = some u ∧ RelV v u ∧ rep0 K p.2 v
  mkd : ∀ p ∈ G.mkd, ∃ j, j + 1 ≤ k ∧ MkD' P w K mg base tab j p.1 p.2.2.1 p.2.2.2.1 p.2.2.2.2
  hld : ∀ x ∈ G.hld, ∀ ad, mg x = some (.ref ad) → ∃ j, j ≤ k ∧ ∃ fd ps, PySem.W.keepIn K (.ref ad) = true ∧ FnOk P w K mg base (L2.CX P w) j ad fd ps (spB ⟨K, mg, tab⟩ fnNone) ∧ Binds K fd ps []
  mthd : ∀ p ∈ G.mthd, ∃ j, j ≤ k ∧ MethD' P w K mg base tab j p.1 p.2.2.1 p.2.2.2
  hfs : ∀ p ∈ G.hfs, ∃ j, j ≤ k ∧ HotB' P w K mg base tab j p.1 p.2
/-- where an exception is handled -/
def Suit (X : Cx) (x : Xz) : Prop := ∃ X0 oe pn, X = Cx.suite X0 x.a ((x.a, oe) :: pn) ∧ Zc x.cls x.d oe ∧ ∃ vs, oe.data = .fields vs
structure XOk (G : Ctx) (tab : List (Str × List Str)) (S : Sc) (X : Cx) (z : Option Xz) (W : WX) : Prop where
  N : X.N = S.N
  nd : X.N.Nodup
  sc : X.env.scope = S.sc
  calm : X.calm = S.calm
  gk : ∃ k, GOk G X.prog X.w X.K X.mg X.base tab k ∧ (S.calm = true → Room k X.A) ∧ L2H.RoomH k X.A
  un : X.A.units + 65 < cLine
  tk : Takes X W
  hz : S.hot = z.map fun x => x.i
  hc : S.calm = true → z = none
  hs : ∀ x, z = some x → Suit X x
  lm : ∀ h x q, S.lam = some (h, x, q) → LmOk X x q
theorem XOk.hot {G : Ctx} {tab : List (Str × List Str)} {S : Sc} {X : Cx} {z : Option Xz} {W : WX} (xo : XOk G tab S X z W) {x : Xz} (h : z = some x) : S.hot = some x.i := by
  rw [xo.hz, h]
  rfl
theorem lookup_mem {α β : Type} [BEq α] [LawfulBEq α] {a : α} {b : β} : ∀ {l : List (α × β)}, l.lookup a = some b → (a, b) ∈ l
  | [], h => nomatch h
  | (c, d) :: r, h => by
    rw [List.lookup_cons] at h
    by_cases e : a == c
    · rw [e] at h
      obtain rfl := Option.some.inj h
      obtain rfl := eq_of_beq e
      exact List.mem_cons_self
    · rw [Bool.not_eq_true] at e
      rw [e] at h
      exact List.mem_cons_of_mem _ (lookup_mem h)
theorem ixOf_get {x : Str} : ∀ {N : List Str} {k i : Nat}, ixOf x N k = some i → k ≤ i ∧ N[i - k]? = some x
  | [], _, _, h => nomatch h
  | y :: r, k, i, h => by
    unfold ixOf at h
    split at h
    · rename_i e
      obtain rfl := Option.some.inj h
      subst e
      exact ⟨Nat.le_refl _, by rw [Nat.sub_self]; rfl⟩
    · obtain ⟨h1, h2⟩ := ixOf_get h
      refine ⟨by omega, ?_⟩
      have e : i - k = (i - (k + 1)) + 1 := by omega
      rw [e]
      exact h2
theorem ixOf_0 {x : Str} {N : List Str} {i : Nat} (h : ixOf x N 0 = some i) : N[i]? = some x := by
  have q := (ixOf_get h).2
  rwa [Nat.sub_zero] at q
theorem star_ne {a : Expr} (h : isStar a = false) : ∀ x p, a ≠ .Starred x p := fun x p e => by
  subst e
  cases h
theorem set_ne {a : Expr} (h : isSet a = false) : ∀ l k p, a ≠ .Set l k p := fun l k p e => by
  subst e
  cases h
theorem slc_ne {a : Expr} (h : isSlc a = false) : ∀ l u s p, a ≠ .Slice l u s p := fun l u s p e => by
  subst e
  cases h
theorem base_of {o : Expr} {m : Str} {env : Env} {wh : Sem Value} (h : isCall o = false) : attributeBase o m env wh = wh := by
  cases o <;> first | rfl | skip
  rename_i f args kws pos
  cases f <;> cases args <;> cases kws <;> first | rfl | cases h
theorem plain_star {pos : Pos} {env : Env} : ∀ {es : List Expr}, (∀ a ∈ es, isStar a = false) → (backTo pos (starEach es env)).any (·.1) = false
  | [], _ => rfl
  | a :: r, h => by
    rw [star_of (star_ne (h a List.mem_cons_self))]
    show (false || (backTo pos (starEach r env)).any (·.1)) = false
    rw [plain_star fun b hb => h b (List.mem_cons_of_mem _ hb)]
    rfl
theorem all_star {pos : Pos} {env : Env} : ∀ {es : List Expr}, (∀ a ∈ es, isStar a = false) → (backTo pos (starEach es env)).all (fun x => !x.1) = true
  | [], _ => rfl
  | a :: r, h => by
    rw [star_of (star_ne (h a List.mem_cons_self))]
    show (true && (backTo pos (starEach r env)).all (fun x => !x.1)) = true
    rw [all_star fun b hb => h b (List.mem_cons_of_mem _ hb)]
    rfl
theorem map_some {α β : Type} {f : α → β} {o : Option α} {b : β} (h : o.map f = some b) : ∃ a, o = some a ∧ f a = b := by
  cases o with
  | none => cases h
  | some a => exact ⟨a, rfl, Option.some.inj h⟩
theorem cL_star {f : Expr → Option ME} : ∀ {es : List Expr} {l : List ME}, cL f es = some l → (∀ a ∈ es, isStar a = false) ∧ l.length = es.length
  | [], l, h => by
    obtain rfl := Option.some.inj h
    exact ⟨(fun a ha => by cases ha), rfl⟩
  | a :: r, l, h => by
    unfold cL at h
    split at h
    · cases h
    · rename_i hs
      split at h
      · rename_i x l' h1 h2
        obtain rfl := Option.some.inj h
        obtain ⟨i1, i2⟩ := cL_star h2
        refine ⟨fun b hb => ?_, by rw [List.length_cons, List.length_cons, i2]⟩
        rcases List.mem_cons.mp hb with rfl | hb
        · exact Bool.not_eq_true _ ▸ hs
        · exact i1 b hb
      · cases h
theorem vis_of {sc : Scope} {x : Str} (h : visB sc x = true) : Vis sc x := by
  unfold visB at h
  unfold Vis
  split at h
  · rename_i e; exact .inl e
  · rename_i e; exact .inr (.inl e)
  · rename_i e; exact .inr (.inr e)
  · cases h
theorem loc_of {sc : Scope} {x : Str} (h : locB sc x = true) : L2.Loc sc x := by
  unfold locB at h
  unfold L2.Loc
  split at h
  · rename_i e; exact .inl e
  · rename_i e; exact .inr e
  · cases h
theorem lc_of {sc : Scope} {x : Str} (h : lcB sc x = true) : sc.names.lookup x = some .local := by
  unfold lcB at h
  split at h
  · assumption
  · cases h
theorem gl_of {X : Cx} {sc : Scope} {x : Str} (e : X.env.scope = sc) (h : glB sc x = true) : Gl X x := by
  unfold glB at h
  split at h
  · rename_i q
    show X.env.scope.names.lookup x = _
    rw [e]
    exact q
  · cases h
theorem dbg_of {x : Str} (h : dbg x = false) : (x == ("__debug__" : Str)) = false ∧ (x == ("__classdict__" : Str)) = false := by
  unfold dbg at h
  exact Bool.or_eq_false_iff.mp h
theorem tyOf_eq {x : Str} {t : Ty} (h : tyOf x = some t) : x = Str.ofString (tyN t) := by
  unfold tyOf at h
  repeat' (split at h)
  all_goals first | cases h; assumption | (obtain rfl := Option.some.inj h; assumption) | cases h
theorem biOf_eq {x : Str} {t : BI} (h : biOf x = some t) : x = Str.ofString (biN t) := by
  unfold biOf at h
  repeat' (split at h)
  all_goals first | cases h; assumption | (obtain rfl := Option.some.inj h; assumption) | cases h
theorem smOf_eq {x : Str} {t : SM} (h : smOf x = some t) : x = Str.ofString (smN t) := by
  unfold smOf at h
  repeat' (split at h)
  all_goals first | cases h; assumption | (obtain rfl := Option.some.inj h; assumption) | cases h
section
variable {G : Ctx} {tab : List (Str × List Str)} {rec : Sc → Expr → Option ME}
/-- what a step leans on -/
def RecOk (G : Ctx) (tab : List (Str × List Str)) (rec : Sc → Expr → Option ME) : Prop := ∀ (S : Sc) (X : Cx) (z : Option Xz) (W : WX), XOk G tab S X z W → ∀ (e : Expr) (m : ME), rec S e = some m →
  BE X tab z W e (den m) ∧ ∀ j, okT j e = true → BT X tab z W e (den m)
variable {S : Sc} {X : Cx} {z : Option Xz} {W : WX}
theorem cL_ok (ok : RecOk G tab rec) (xo : XOk G tab S X z W) : ∀ {es : List Expr} {l : List ME}, cL (rec S) es = some l → BA X tab z W es (denL l)
  | [], l, h => by
    obtain rfl := Option.some.inj h
    exact ba_nil
  | a :: r, l, h => by
    unfold cL at h
    split at h
    · cases h
    · rename_i hs
      split at h
      · rename_i x l' h1 h2
        obtain rfl := Option.some.inj h
        exact ba_cons (star_ne (Bool.not_eq_true _ ▸ hs)) (ok S X z W xo a x h1).1 (cL_ok ok xo h2)
      · cases h
theorem cO_ok (ok : RecOk G tab rec) (xo : XOk G tab S X z W) {o : Option Expr} {l : Option ME} (h : cO (rec S) o = some l) : BO X tab z W o (denO l) := by
  cases o with
  | none =>
    obtain rfl := Option.some.inj h
    exact bo_none
  | some a =>
    obtain ⟨m, h1, rfl⟩ := map_some h
    exact bo_some (ok S X z W xo a m h1).1
theorem pt_w1 {op : BoolOp} {a : Expr} {f : Sl → Sto → Rs T} {pos : Pos} (h : BT X tab z W a f) : BW X tab z W (.BoolOp op [a] pos) f := by
  cases op with
  | And => exact pw_and1 h
  | Or => exact pw_or1 h
theorem cBo_ok (ok : RecOk G tab rec) (xo : XOk G tab S X z W) {op : BoolOp} {pos : Pos} : ∀ {es : List Expr} {m : ME}, cBo (rec S) op es = some m → BE X tab z W (.BoolOp op es pos) (den m) ∧ ∀ j, es.all (okT j) = true → BW X tab z W (.BoolOp op es pos) (den m)
  | [], m, h => nomatch h
  | [a], m, h => by
    have h : rec S a = some m := h
    obtain ⟨h1, h2⟩ := ok S X z W xo a m h
    refine ⟨pe_one h1, fun j hj => pt_w1 (h2 j ?_)⟩
    simpa using hj
  | a :: b :: r, m, h => by
    unfold cBo at h
    split at h
    · rename_i x y hx hy
      obtain rfl := Option.some.inj h
      obtain ⟨h1, h2⟩ := ok S X z W xo a x hx
      obtain ⟨i1, i2⟩ := cBo_ok ok xo (es := b :: r) hy
      cases op with
      | And =>
        refine ⟨?_, fun j hj => ?_⟩
        · exact be_and h1 i1
        · rw [List.all_cons, Bool.and_eq_true] at hj
          exact bw_and (h2 j hj.1) (i2 j hj.2)
      | Or =>
        refine ⟨?_, fun j hj => ?_⟩
        · exact be_or h1 i1
        · rw [List.all_cons, Bool.and_eq_true] at hj
          exact bw_or (h2 j hj.1) (i2 j hj.2)
    · cases h
theorem cTs_ok (xo : XOk G tab S X z W) : ∀ {es : List Expr} {l : List Ty}, cTs S.sc G.bis es = some l → Paired (fun e c => ∃ p, e = .Name (Str.ofString (tyN c)) p ∧ Gl X (Str.ofString (tyN c)) ∧ X.mg (Str.ofString (tyN c)) = none) es l
  | [], l, h => by
    obtain rfl := Option.some.inj h
    exact .nil
  | e :: r, l, h => by
    cases e with
    | Name x p =>
      unfold cTs at h
      split at h
      · rename_i t l' h1 h2
        split at h
        · rename_i c
          obtain rfl := Option.some.inj h
          rw [Bool.and_eq_true] at c
          obtain rfl := tyOf_eq h1
          obtain ⟨k, gk, _⟩ := xo.gk
          exact .cons ⟨p, rfl, gl_of xo.sc c.1, gk.bis _ (List.contains_iff_mem.mp c.2)⟩ (cTs_ok xo h2)
        · cases h
      · cases h
    | _ => cases h
theorem nms_ok : ∀ {es : List Expr} {xs : List Str}, nms es = some xs → es.length = xs.length ∧ ∀ (i : Nat) (e : Expr), es[i]? = some e → ∃ x p, e = Expr.Name x p ∧ xs[i]? = some x
  | [], xs, h => by
    obtain rfl := Option.some.inj h
    exact ⟨rfl, fun i e q => by simp at q⟩
  | e :: r, xs, h => by
    cases e with
    | Name x p =>
      obtain ⟨l, h1, rfl⟩ := map_some (show (nms r).map (x :: ·) = some xs from h)
      obtain ⟨i1, i2⟩ := nms_ok h1
      refine ⟨by rw [List.length_cons, List.length_cons, i1], fun i e q => ?_⟩
      cases i with
      | zero =>
        obtain rfl : Expr.Name x p = e := by simpa using q
        exact ⟨x, p, rfl, rfl⟩
      | succ i => exact i2 i e (by simpa using q)
    | _ => cases h
theorem each_len {env : Env} : ∀ {es : List Expr} {xs : List Str}, nms es = some xs → (assignEach es env).length = es.length ∧ (assignEach es env).findIdx? (·.1) = none
  | [], xs, h => ⟨rfl, rfl⟩
  | e :: r, xs, h => by
    cases e with
    | Name x p =>
      obtain ⟨l, h1, rfl⟩ := map_some (show (nms r).map (x :: ·) = some xs from h)
      obtain ⟨i1, i2⟩ := each_len (env := env) h1
      refine ⟨?_, ?_⟩
      · show (assignEach r env).length + 1 = r.length + 1
        rw [i1]
      · show ((false, assign (.Name x p) env) :: assignEach r env).findIdx? (·.1) = none
        rw [List.findIdx?_cons, i2]
        rfl
    | _ => cases h
theorem pgs_ok {X : Cx} {N : List Str} (hN : X.N = N) (nd : X.N.Nodup) : ∀ {es : List Expr} {xs : List Str} {l : List Nat}, nms es = some xs → ixs N xs = some l → (∀ x ∈ xs, Loc X.env.scope x ∧ (X.fn x = true ∨ X.env.scope.names.lookup x = some .local)) → PGs X es (gSlots l)
  | [], xs, l, h, h2, _ => by
    obtain rfl := Option.some.inj h
    obtain rfl := Option.some.inj h2
    exact pgs_nil
  | e :: r, xs, l, h, h2, hl => by
    cases e with
    | Name x p =>
      obtain ⟨xs', h1, rfl⟩ := map_some (show (nms r).map (x :: ·) = some xs from h)
      unfold ixs at h2
      split at h2
      · rename_i i l' e1 e2
        obtain rfl := Option.some.inj h2
        have q := hl x List.mem_cons_self
        exact pgs_cons (pg_name nd (by rw [hN]; exact ixOf_0 e1) q.1 q.2) (pgs_ok hN nd h1 e2 fun y hy => hl y (List.mem_cons_of_mem _ hy)) rfl
      · cases h2
    | _ => cases h
def tgG (K : PySem.W.Frag) : Tg → TG
  | .one i => gName i
  | .many l => gSq K l.length (gSlots l)
theorem ixs_len {N : List Str} : ∀ {xs : List Str} {l : List Nat}, ixs N xs = some l → l.length = xs.length ∧ ∀ p ∈ xs.zip l, N[p.2]? = some p.1
  | [], l, h => by
    obtain rfl := Option.some.inj h
    exact ⟨rfl, (fun p hp => by cases hp)⟩
  | x :: xs, l, h => by
    unfold ixs at h
    split at h
    · rename_i i l' e1 e2
      obtain rfl := Option.some.inj h
      obtain ⟨i1, i2⟩ := ixs_len e2
      refine ⟨by rw [List.length_cons, List.length_cons, i1], fun p hp => ?_⟩
      rcases List.mem_cons.mp (show p ∈ (x, i) :: xs.zip l' from hp) with rfl | hp
      · exact ixOf_0 e1
      · exact i2 p hp
    · cases h
/-- a target -/
theorem tgC_ok {X : Cx} {loc : Str → Bool} {tg : Expr} {t : Tg} {xs : List Str} {l : List Nat} (hN : X.N = S.N) (nd : X.N.Nodup) (hc : X.calm = true ∨ isTup tg = false) (h : tgC S loc tg = some (t, xs, l)) (hl : ∀ x, loc x = true → Loc X.env.scope x ∧ (X.fn x = true ∨ X.env.scope.names.lookup x = some .local)) :
    PG X tg (tgG X.K t) ∧ (∀ i ∈ l, S.hot ≠ some i) ∧ l.length = xs.length ∧ (t = .many l ∨ ∃ i, t = .one i ∧ l = [i]) := by
  unfold tgC at h
  split at h
  · rename_i x p
    split at h
    · rename_i hx
      split at h
      · rename_i i hi
        split at h
        · cases h
        · rename_i hh
          obtain ⟨rfl, h'⟩ := Prod.mk.inj (Option.some.inj h)
          obtain ⟨rfl, rfl⟩ := Prod.mk.inj h'
          have q := hl x hx
          refine ⟨pg_name nd (by rw [hN]; exact ixOf_0 hi) q.1 q.2, fun j hj => ?_, rfl, .inr ⟨i, rfl, rfl⟩⟩
          obtain rfl : j = i := by simpa using hj
          exact hh
      · cases h
    · cases h
  · rename_i es k p
    split at h
    · rename_i ys hy
      split at h
      · rename_i ha
        split at h
        · rename_i l' e
          split at h
          · cases h
          · rename_i hh
            obtain ⟨rfl, h'⟩ := Prod.mk.inj (Option.some.inj h)
            obtain ⟨rfl, rfl⟩ := Prod.mk.inj h'
            have el := ixs_len e
            have en := nms_ok hy
            have ee := each_len (env := X.env) hy
            refine ⟨?_, fun i hi q => ?_, el.1, .inl rfl⟩
            · show PG X _ (gSq X.K l'.length (gSlots l'))
              refine pg_sq (hc.resolve_right (fun z => by cases z)) (pgs_ok hN nd hy e fun x hx => hl x (List.all_eq_true.mp ha x hx)) (by rw [ee.1, en.1, el.1]) ee.2
            · exact hh (List.any_eq_true.mpr ⟨i, hi, by simpa using q⟩)
        · cases h
      · cases h
    · cases h
  · cases h
end
end BV
/-! the checker is right: calls, comprehensions, all expressions -/
namespace BV
open PySem PySem.Spec L2
theorem bind_inv {α β : Type} {r : Rs α} {k : α → Sto → Rs β} {b : β} {m : Sto} (h : r.bind k = .ok b m) : ∃ a m1, r = .ok a m1 ∧ k a m1 = .ok b m := by
  cases r with
  | ok a m1 => exact ⟨a, m1, rfl, h⟩
  | exc c xs m1 => cases h
  | bad => cases h
theorem walkT_stands {t : T} {m : Sto} {w : Wk} (h : walkT t m = some w) : stands w m := by
  unfold walkT at h
  split at h <;> first | (obtain rfl := Option.some.inj h; exact trivial) | cases h | skip
  split at h
  · rename_i hn
    obtain rfl := Option.some.inj h
    exact hn
  · cases h
theorem denI_stands {mi : MI} {e : Sl} {m : Sto} {w : Wk} {m' : Sto} (h : denI mi e m = .ok w m') : stands w m' := by
  cases mi with
  | seq a =>
    simp only [denI] at h
    obtain ⟨x, m1, h1, h2⟩ := bind_inv h
    split at h2
    · rename_i w' hw
      cases h2
      exact walkT_stands hw
    · cases h2
  | rng1 a =>
    simp only [denI] at h
    obtain ⟨x, m1, h1, h2⟩ := bind_inv h
    split at h2
    · split at h2
      · cases h2; exact trivial
      · cases h2
    · cases h2
  | rng2 a b =>
    simp only [denI] at h
    obtain ⟨x, m1, h1, h2⟩ := bind_inv h
    obtain ⟨y, m2, h3, h4⟩ := bind_inv h2
    split at h4
    · split at h4
      · cases h4; exact trivial
      · cases h4
    · cases h4
  | rng3 a b c =>
    simp only [denI] at h
    obtain ⟨x, m1, h1, h2⟩ := bind_inv h
    obtain ⟨y, m2, h3, h4⟩ := bind_inv h2
    obtain ⟨w, m3, h5, h6⟩ := bind_inv h4
    split at h6
    · split at h6
      · cases h6; exact trivial
      · cases h6
    · cases h6
  | enm a =>
    simp only [denI] at h
    obtain ⟨x, m1, h1, h2⟩ := bind_inv h
    split at h2
    · cases h2; exact trivial
    · split at h2
      · rename_i hc
        cases h2
        exact stands_enm.mpr hc
      · cases h2
    · cases h2
  | zip a b =>
    simp only [denI] at h
    obtain ⟨x, m1, h1, h2⟩ := bind_inv h
    obtain ⟨y, m2, h3, h4⟩ := bind_inv h2
    split at h4
    · cases h4; exact trivial
    · split at h4
      · rename_i hc
        cases h4
        exact ⟨_, hc, rfl⟩
      · cases h4
    · cases h4
theorem meth_eq {o : Expr} {m : Str} {apos pos : Pos} {args : List Expr} {env : Env} (hc : isCall o = false) (hl : (apos.endLine == pos.line) = true) (hs : ∀ a ∈ args, isStar a = false) (hn : args.length < 30) :
    eval (.Call (.Attribute o m apos) args [] pos) env = (do
      let ov ← eval o env
      standAt apos.atName
      let (f, first) ← holding [ov] (getMethod ov m (do return (← importBound o env).getD true))
      callWith pos f first (backTo pos (starEach args env)) (backToKw pos (keywordEach [] env))) := by
  have hform : methodCallForm (args.length + ([] : List Keyword).length) (backTo pos (starEach args env)) (backToKw pos (keywordEach [] env)) = true := by
    unfold methodCallForm
    rw [all_star hs]
    show (true && true && decide (args.length + 0 + 0 < 30)) = true
    simp [hn]
  have hpos : methodCallPos true o env apos pos = pure pos := by unfold methodCallPos; simp [hl]
  show (do
    let ov ← attributeBase o m env (eval o env)
    standAt apos.atName
    methodCall o m apos pos env ov (args.length + ([] : List Keyword).length) (backTo pos (starEach args env)) (backToKw pos (keywordEach [] env))) = _
  rw [base_of hc]
  unfold methodCall
  rw [hform, hpos]
  rfl
section
variable {G : Ctx} {tab : List (Str × List Str)} {rec : Sc → Expr → Option ME} {S : Sc} {X : Cx} {z : Option Xz} {W : WX}
theorem xo_blk (xo : XOk G tab S X z W) (hcalm : S.calm = true) (s : Shared) (H : Hp) (scope : Scope) (C : Addr) (cl : List (Str × Addr)) (fp : List Addr) :
    XOk G tab (relSc S scope) (X.blk s H scope (compEnvC scope cl C X.env) fp) z W0 := by
  refine ⟨xo.N, xo.nd, ?_, xo.calm, xo.gk, xo.un, ?_, xo.hz, xo.hc, fun x h => ?_, fun _ _ _ h => nomatch h⟩
  · show relabel scope X.env = relS scope S.sc
    rw [← xo.sc]
    rfl
  · rintro u s' ⟨a, B, sI, pins, σ, H, cls, d, _, _, _, _, _, _, _, _, f⟩
    exact f.elim
  · rw [xo.hc hcalm] at h
    cases h
theorem bis_none (xo : XOk G tab S X z W) {x : Str} (h : G.bis.contains x = true) : X.mg x = none := by
  obtain ⟨k, gk, _⟩ := xo.gk
  exact gk.bis _ (List.contains_iff_mem.mp h)
theorem folded_of {it : Expr} {env : Env} (h : isSet it = false) : ∀ x, foldedSetIterable it env x = pure x := by
  intro x
  cases it <;> first | rfl | cases h
theorem bi_cast {tg it : Expr} {f f' : Sl → Sto → Rs Wk} (h : BI' X tab z W tg it f) (q : ∀ s m, f' s m = f s m) : BI' X tab z W tg it f' := by
  have : f' = f := funext fun s => funext fun m => q s m
  rw [this]
  exact h
theorem cI_seq (ok : RecOk G tab rec) (xo : XOk G tab S X z W) {tg it : Expr} {mi : MI} (h : (rec S it).map MI.seq = some mi) : BI' X tab z W tg it (denI mi) := by
  obtain ⟨m, h1, rfl⟩ := map_some h
  have q := bi_seq (tg := tg) (ok S X z W xo it m h1).1
  exact bi_cast q fun s m => by simp only [denI] <;> rfl
theorem cI_ok (ok : RecOk G tab rec) (xo : XOk G tab S X z W) {tg it : Expr} {mi : MI} (h : cI G rec S (isTup tg) it = some mi) : BI' X tab z W tg it (denI mi) ∧ isSet it = false := by
  have neg : ∀ {a : Expr}, isStar a ≠ true → ∀ x p, a ≠ .Starred x p := fun h => star_ne (Bool.not_eq_true _ ▸ h)
  unfold cI at h
  split at h
  · rename_i x p args pos
    refine ⟨?_, rfl⟩
    split at h
    · rename_i ex
      subst ex
      split at h
      · rename_i c
        rw [Bool.and_eq_true] at c
        have hg := gl_of xo.sc c.1
        have hm := bis_none xo c.2
        split at h
        · rename_i a
          split at h
          · cases h
          · rename_i hs
            obtain ⟨m, h1, rfl⟩ := map_some h
            have q := bi_rng1 (tg := tg) (p := p) (pos := pos) hg hm (neg hs) (ok S X z W xo a m h1).1
            exact bi_cast q fun s m => by simp only [denI] <;> rfl
        · rename_i a b
          split at h
          · cases h
          · rename_i hs
            rw [Bool.or_eq_true, not_or] at hs
            split at h
            · rename_i ma mb h1 h2
              obtain rfl := Option.some.inj h
              have q := bi_rng2 (tg := tg) (p := p) (pos := pos) hg hm (neg hs.1) (neg hs.2) (ok S X z W xo a ma h1).1 (ok S X z W xo b mb h2).1
              exact bi_cast q fun s m => by simp only [denI] <;> rfl
            · cases h
        · rename_i a b c
          split at h
          · cases h
          · rename_i hs
            rw [Bool.or_eq_true, not_or, Bool.or_eq_true, not_or] at hs
            split at h
            · rename_i ma mb mc h1 h2 h3
              obtain rfl := Option.some.inj h
              have q := bi_rng3 (tg := tg) (p := p) (pos := pos) hg hm (neg hs.1.1) (neg hs.1.2) (neg hs.2) (ok S X z W xo a ma h1).1 (ok S X z W xo b mb h2).1 (ok S X z W xo c mc h3).1
              exact bi_cast q fun s m => by simp only [denI] <;> rfl
            · cases h
        · cases h
      · cases h
    · split at h
      · rename_i ex
        subst ex
        split at h
        · rename_i c
          rw [Bool.and_eq_true, Bool.and_eq_true] at c
          have hg := gl_of xo.sc c.1.2
          have hm := bis_none xo c.2
          cases tg with
          | Tuple elts kk tpos =>
            split at h
            · rename_i a
              split at h
              · cases h
              · rename_i hs
                obtain ⟨m, h1, rfl⟩ := map_some h
                have q := bi_enm (elts := elts) (kk := kk) (tpos := tpos) (p := p) (pos := pos) hg hm (neg hs) (ok S X z W xo a m h1).1
                exact bi_cast q fun s m => by simp only [denI] <;> rfl
            · cases h
          | _ => cases c.1.1
        · cases h
      · split at h
        · rename_i ex
          subst ex
          split at h
          · rename_i c
            rw [Bool.and_eq_true, Bool.and_eq_true] at c
            have hg := gl_of xo.sc c.1.2
            have hm := bis_none xo c.2
            cases tg with
            | Tuple elts kk tpos =>
              split at h
              · rename_i a b
                split at h
                · cases h
                · rename_i hs
                  rw [Bool.or_eq_true, not_or] at hs
                  split at h
                  · rename_i ma mb h1 h2
                    obtain rfl := Option.some.inj h
                    have q := bi_zip (elts := elts) (kk := kk) (tpos := tpos) (p := p) (pos := pos) hg hm (neg hs.1) (neg hs.2) (ok S X z W xo a ma h1).1 (ok S X z W xo b mb h2).1
                    exact bi_cast q fun s m => by simp only [denI] <;> rfl
                  · cases h
              · cases h
            | _ => cases c.1.1
          · cases h
        · exact cI_seq ok xo h
  · cases h
  · rename_i n1 n2
    refine ⟨cI_seq ok xo h, ?_⟩
    cases it <;> first | rfl | exact absurd rfl (n2 _ _ _)
/-- a comprehension's tests -/
theorem cC_ok (ok : RecOk G tab rec) (xo : XOk G tab S X z W) {ifs : List Expr} {cs : List ME} (h : cC rec S ifs = some cs) : PTs X ifs (liftC (sg X tab) z W (denC cs)) := by
  have w : ∀ {t t' : TT}, PTs X ifs t → (∀ σ H Q, t' σ H Q → t σ H Q) → PTs X ifs t' := fun h k => ⟨fun pins s σ H Q I q => h.run pins s σ H Q I (k σ H Q q)⟩
  unfold cC at h
  split at h
  · obtain rfl := Option.some.inj h
    refine w pts_nil fun σ H Q ⟨g, e, m, rl, so, p⟩ => ?_
    simp only [denC] at p
    exact p g H (Stp.refl _ _) rl
  · rename_i c
    split at h
    · rename_i ht
      obtain ⟨m, h1, rfl⟩ := map_some h
      refine w (pts_one ((ok S X z W xo c m h1).2 20 ht)) fun σ H Q ⟨g, e, m0, rl, so, p⟩ => ?_
      simp only [denC] at p
      refine ⟨g, e, m0, rl, so, Po.imp (Po.bind p) fun g1 H1 x m1 s1 r1 q => ?_⟩
      have q2 := q.2.2
      split at q2
      · exact ⟨true, rfl, q2 g1 H1 (Stp.refl _ _) r1⟩
      · exact ⟨false, rfl, q2 g1 H1 (Stp.refl _ _) r1⟩
      · exact q2.elim
    · cases h
  · cases h
theorem zip_snd {α β : Type} : ∀ {xs : List α} {l : List β}, l.length = xs.length → (xs.zip l).map (·.2) = l
  | [], [], _ => rfl
  | x :: xs, y :: l, h => by
    show y :: (xs.zip l).map (·.2) = y :: l
    rw [zip_snd (Nat.succ.inj h)]
  | [], _ :: _, h => nomatch h
  | _ :: _, [], h => nomatch h
/-- what a comprehension asks, ready for its use -/
theorem cComp_use (ok : RecOk G tab rec) (xo : XOk G tab S X z W) {elt : Expr} {gs : List Comprehension} {scope : Scope} {m : ME} (h : cComp G rec S elt gs scope = some m) :
    ∃ (tg it : Expr) (ifs : List Expr) (t : Tg) (mi : MI) (cs : List ME) (x : ME) (l : List Nat) (own : List (Str × Nat)), gs = [⟨tg, it, ifs, 0⟩] ∧ m = .comp t mi cs x ∧ X.calm = true ∧ BI' X tab z W tg it (denI mi) ∧ isSet it = false ∧ BlkOk X.N X.env.scope scope own ∧ own.map (·.2) = l ∧
      (∀ (s : Shared) (H : Hp) (C : Addr) (cl : List (Str × Addr)) (fp : List Addr), PG (X.blk s H scope (compEnvC scope cl C X.env) fp) tg (tgG X.K t)) ∧
      (∀ (s : Shared) (H : Hp) (C : Addr) (cl : List (Str × Addr)) (fp : List Addr), PTs (X.blk s H scope (compEnvC scope cl C X.env) fp) ifs (liftC (sg X tab) z W0 (denC cs))) ∧
      (∀ (s : Shared) (H : Hp) (C : Addr) (cl : List (Str × Addr)) (fp : List Addr), PE (X.blk s H scope (compEnvC scope cl C X.env) fp) elt (lift (sg X tab) z W0 (den x))) ∧
      TgC (sg X tab) z t l (tgG X.K t) := by
  unfold cComp at h
  split at h
  · rename_i tg it ifs j
    split at h
    · cases h
    · rename_i hj
      have hj : j = 0 := Classical.not_not.mp hj
      subst hj
      split at h
      · rename_i hcalm
        split at h
        · rename_i mi t xs l hmi htg
          split at h
          · rename_i hb
            rw [Bool.and_eq_true, decide_eq_true_eq] at hb
            split at h
            · rename_i cs x hcs hx
              obtain rfl := Option.some.inj h
              have hcx : X.calm = true := by rw [xo.calm]; exact hcalm
              obtain ⟨i1, i2⟩ := cI_ok ok xo hmi
              have tk : ∀ (s : Shared) (H : Hp) (C : Addr) (cl : List (Str × Addr)) (fp : List Addr), PG (X.blk s H scope (compEnvC scope cl C X.env) fp) tg (tgG X.K t) ∧ (∀ i ∈ l, S.hot ≠ some i) ∧ l.length = xs.length ∧ (t = .many l ∨ ∃ i, t = .one i ∧ l = [i]) := fun s H C cl fp => by
                refine tgC_ok (S := S) (loc := lcB (relS scope S.sc)) xo.N xo.nd (.inl hcx) htg fun y hy => ?_
                have e : relabel scope X.env = relS scope S.sc := by rw [← xo.sc]; rfl
                have k : (compEnvC scope cl C X.env).scope.names.lookup y = some .local := by
                  show (relabel scope X.env).names.lookup y = _
                  rw [e]
                  exact lc_of hy
                exact ⟨.inl k, .inr k⟩
              obtain ⟨_, hhot, hlen, hform⟩ := tk X.s_0 X.H_0 0 [] []
              have hz : ∀ i ∈ l, ∀ x, z = some x → x.i ≠ i := fun i hi x hx e => hhot i hi (by rw [← e]; exact xo.hot hx)
              refine ⟨tg, it, ifs, t, mi, cs, x, l, xs.zip l, rfl, rfl, hcx, i1, i2, ?_, zip_snd hlen, fun s H C cl fp => (tk s H C cl fp).1, fun s H C cl fp => ?_, fun s H C cl fp => ?_, ?_⟩
              · rw [xo.N, xo.sc]
                exact blkOk_by hb.1
              · exact cC_ok (S := relSc S scope) ok (xo_blk xo hcalm s H scope C cl fp) hcs
              · exact (ok (relSc S scope) _ z W0 (xo_blk xo hcalm s H scope C cl fp) elt x hx).1
              · rcases hform with rfl | ⟨i, rfl, rfl⟩
                · exact tgc_many hb.2 hz
                · exact tgc_one (hz i List.mem_cons_self)
            · cases h
          · cases h
        · cases h
      · cases h
  · cases h
theorem be_comp (ok : RecOk G tab rec) (xo : XOk G tab S X z W) {elt : Expr} {gs : List Comprehension} {scope : Scope} {pos : Pos} {m : ME} (b : Bool) (h : cComp G rec S elt gs scope = some m) : BE X tab z W (.ListComp elt gs scope pos) (fun e s => mq b (den m e s)) := by
  obtain ⟨tg, it, ifs, t, mi, cs, x, l, own, rfl, rfl, hc, hi, hs, hb, rfl, hg, ht, he, hT⟩ := cComp_use ok xo h
  refine pe_w (pe_lc hc xo.nd hi hb hg ht he (folded_of hs)) fun σ H Q q => ?_
  refine comp_use (b := b) hT (fun e m w m' => denI_stands) ?_
  obtain ⟨g, e, m, rl, so, p⟩ := q
  refine ⟨g, e, m, rl, so, ?_⟩
  simp only [den] at p
  exact p
theorem bs_setLc (ok : RecOk G tab rec) (xo : XOk G tab S X z W) {elt : Expr} {gs : List Comprehension} {scope : Scope} {pos py spos : Pos} {y : Str} {i : Nat} {m : ME} (b : Bool) (hy : X.N[i]? = some y) (hyl : X.env.scope.names.lookup y = some .local)
    (hsw : swapsWith (.ListComp elt gs scope pos) (some (.Name y py)) spos.line X.env = pure true) (hz : ∀ x, z = some x → x.i ≠ i)
    (h : cComp G rec S elt gs scope = some m) : BS X tab z W (.Assign [.Name y py] (.ListComp elt gs scope pos) spos) (fun e s => (mq b (den m e s)).st e fun x m1 => .nx (e.set i (some x)) m1) := by
  obtain ⟨tg, it, ifs, t, mi, cs, x, l, own, rfl, rfl, hc, hi, hs, hb, rfl, hg, ht, he, hT⟩ := cComp_use ok xo h
  refine ps_w (ps_setLc hc xo.nd hy hyl hsw hi hb hg ht he (folded_of hs)) fun D σ H ⟨g, e, m, rl, so, p⟩ => ?_
  refine comp_use (b := b) hT (fun e m w m' => denI_stands) ?_
  simp only [den] at p
  exact lift_st (f := fun e m => mq b _) rl so p fun g1 H1 x m1 v r1 so1 s1 hv p1 => p1.nx r1 (slots_set so1 hv hz)
end
end BV
/-! the checker is right: all expressions -/
namespace BV
open PySem PySem.Spec L2
section
variable {X : Cx} {tab : List (Str × List Str)} {z : Option Xz} {W : WX}
theorem be_cast {e : Expr} {f f' : Sl → Sto → Rs T} (h : BE X tab z W e f) (q : ∀ s m, f' s m = f s m) : BE X tab z W e f' := by
  have : f' = f := funext fun s => funext fun m => q s m
  rw [this]
  exact h
theorem bt_cast {e : Expr} {f f' : Sl → Sto → Rs T} (h : BT X tab z W e f) (q : ∀ s m, f' s m = f s m) : BT X tab z W e f' := by
  have : f' = f := funext fun s => funext fun m => q s m
  rw [this]
  exact h
theorem lastMarks_of {o p : CmpOp} {b c : Expr} (h : ∀ l k q, c ≠ .Set l k q) : lastMarks [o, p] [b, c] = false := mark_of h
theorem bt_chn {a b c : Expr} {fa fb fc : Sl → Sto → Rs T} {o o' : CmpOp} {pos : Pos} (hu : X.A.units + 65 < cLine) (hs : ∀ l k q, c ≠ .Set l k q)
    (ha : BE X tab z W a fa) (hb : BE X tab z W b fb) (hc : BE X tab z W c fc) :
    BT X tab z W (.Compare a [o, o'] [b, c] pos) (fun e m => (fa e m).bind fun x m1 => (fb e m1).bind fun y m2 => (cmpT o x y m2).bind fun k m3 => match k with | .bl true => (fc e m3).bind fun w m4 => cmpT o' y w m4 | .bl false => .ok (.bl false) m3 | _ => .bad) := by
  obtain ⟨r, h1, h2⟩ := cmp_ok (X := X) (sg X tab) rfl hu o
  obtain ⟨r', h1', h2'⟩ := cmp_ok (X := X) (sg X tab) rfl hu o'
  refine pt_w (pt_chain h1 h1' ha hb hc (lastMarks_of hs)) fun σ H Q ⟨g, e, m, rl, so, p⟩ => ?_
  refine lift_go rl so p fun g1 H1 x m1 v r1 so1 s1 hv p1 => ?_
  refine lift_go r1 so1 p1 fun g2 H2 y m2 u r2 so2 s2 hu p2 => ?_
  refine h2 g2 m2 H2 x y v u _ _ r2 (rep_mono s2 x v hv) hu (Po.imp (Po.bind p2) fun g3 H3 t m3 s3 r3 ⟨_, _, p3⟩ w hw => ?_)
  split at p3
  · refine ⟨true, hw, ?_⟩
    refine (show lift (sg X tab) z W fc σ H3 _ from lift_go r3 (slots_mono s3 so2) p3 fun g4 H4 w m4 q r4 so4 s4 hq p4 => ?_)
    refine h2' g4 m4 H4 y w u q (fun x H' => ∃ k, x = .bl k ∧ Q k H') _ r4 (rep_mono s4 y u (rep_mono s3 y u hu)) hq (Po.imp p4 fun g' H' t m' s' r' ⟨b, e, q⟩ w hw => ?_)
    subst e
    exact ⟨b, hw, q⟩
  · obtain ⟨b, e, q⟩ := p3 g3 H3 (Stp.refl _ _) r3
    cases e
    exact ⟨false, hw, _, rfl, q⟩
  · exact p3.elim
/-- a op1 b op2 c op3 d -/
def tTri (r r' r3 : R2) (ta tb tc td : TE) : TE := fun σ H Q => ta σ H fun x H1 => tb σ H1 fun y H2 => r x y H2 fun z H3 => ∃ k, z = .bl k ∧
  (if k = true then tc σ H3 fun w H4 => r' y w H4 fun z2 H5 => ∃ k2, z2 = .bl k2 ∧ (if k2 = true then td σ H5 fun u H6 => r3 w u H6 Q else Q (.bl false) H5) else Q (.bl false) H3)
open PyProof PyProof.Rows in
theorem pe_tri {a b c d : Expr} {ta tb tc td : TE} {pos : Pos} {o o2 o3 : CmpOp} {r r' r3 : R2} (ho : OpR X (compareOp o) r) (ho' : OpR X (compareOp o2) r') (ho3 : OpR X (compareOp o3) r3) (ha : PE X a ta) (hb : PE X b tb) (hc : PE X c tc) (hd : PE X d td)
    (hm : lastMarks [o, o2, o3] [b, c, d] = false) : PE X (.Compare a [o, o2, o3] [b, c, d] pos) (tTri r r' r3 ta tb tc td) := by
  refine ⟨fun pins s σ H Q I h => ?_⟩
  refine Compare_chain (thn (ha.run pins s σ H _ I h) fun v s1 ⟨x, H1, I1, r1, q1⟩ => chain_link (thn (hb.run pins s1 σ H1 _ I1 q1) fun u s2 ⟨y, H2, I2, r2, q2⟩ =>
    thn (ho pins s2 σ H2 x y v u _ I2 r1 r2 q2) fun d s3 ⟨z, H3, I3, r3, k, e, q3⟩ => ?_)) hm
  subst e
  cases r3
  refine wpAny_truthy_bool ?_
  cases k with
  | false => exact ite_ff ⟨.bl false, H3, I3, rfl, q3⟩
  | true =>
    refine ite_tt (chain_link (thn (hc.run pins s3 σ H3 _ I3 q3) fun w' s4 ⟨z', H4, I4, r4, q4⟩ => thn (ho' pins s4 σ H4 y z' u w' _ I4 r2 r4 q4) fun d' s5 ⟨z2, H5, I5, r5, k2, e2, q5⟩ => ?_))
    subst e2
    cases r5
    refine wpAny_truthy_bool ?_
    cases k2 with
    | false => exact ite_ff ⟨.bl false, H5, I5, rfl, q5⟩
    | true => exact ite_tt (chain_last (thn (hd.run pins s5 σ H5 _ I5 q5) fun w2 s6 ⟨z3, H6, I6, r6, q6⟩ => ho3 pins s6 σ H6 z' z3 w' w2 Q I6 r4 r6 q6))
open PyProof PyProof.Rows in
theorem pt_tri {a b c d : Expr} {ta tb tc td : TE} {pos : Pos} {o o2 o3 : CmpOp} {r r' r3 : R2} (ho : OpR X (compareOp o) r) (ho' : OpR X (compareOp o2) r') (ho3 : OpR X (compareOp o3) r3) (ha : PE X a ta) (hb : PE X b tb) (hc : PE X c tc) (hd : PE X d td)
    (hm : lastMarks [o, o2, o3] [b, c, d] = false) : PT X (.Compare a [o, o2, o3] [b, c, d] pos) (tTest (tTri r r' r3 ta tb tc td)) := by
  refine ⟨fun pins s σ H Q I h => ?_⟩
  refine isTrue_chain (thn (ha.run pins s σ H _ I h) fun v s1 ⟨x, H1, I1, r1, q1⟩ => test_link (thn (hb.run pins s1 σ H1 _ I1 q1) fun u s2 ⟨y, H2, I2, r2, q2⟩ =>
    thn (ho pins s2 σ H2 x y v u _ I2 r1 r2 q2) fun d s3 ⟨z, H3, I3, r3, k, e, q3⟩ => ?_)) hm
  subst e
  cases r3
  refine wpAny_truthy_bool ?_
  cases k with
  | false =>
    obtain ⟨k', e', q'⟩ := q3
    cases e'
    exact ite_ff ⟨H3, I3, q'⟩
  | true =>
    refine ite_tt (test_link (thn (hc.run pins s3 σ H3 _ I3 q3) fun w' s4 ⟨z', H4, I4, r4, q4⟩ => thn (ho' pins s4 σ H4 y z' u w' _ I4 r2 r4 q4) fun d' s5 ⟨z2, H5, I5, r5, k2, e2, q5⟩ => ?_))
    subst e2
    cases r5
    refine wpAny_truthy_bool ?_
    cases k2 with
    | false =>
      obtain ⟨k', e', q'⟩ := q5
      cases e'
      exact ite_ff ⟨H5, I5, q'⟩
    | true =>
      refine ite_tt (test_last (thn (hd.run pins s5 σ H5 _ I5 q5) fun w2 s6 ⟨z3, H6, I6, r6, q6⟩ => thn (ho3 pins s6 σ H6 z' z3 w' w2 _ I6 r4 r6 q6) fun d2 s7 ⟨z4, H7, I7, r7, k3, e3, q7⟩ => ?_))
      subst e3
      cases r7
      exact wpAny_truthy_bool ⟨H7, I7, q7⟩
theorem lastMarks_of3 {o p q : CmpOp} {b c d : Expr} (h : ∀ l k q, d ≠ .Set l k q) : lastMarks [o, p, q] [b, c, d] = false := mark_of h
theorem be_chn3 {a b c d : Expr} {fa fb fc fd : Sl → Sto → Rs T} {o o2 o3 : CmpOp} {pos : Pos} (hu : X.A.units + 65 < cLine) (hs : ∀ l k q, d ≠ .Set l k q)
    (ha : BE X tab z W a fa) (hb : BE X tab z W b fb) (hc : BE X tab z W c fc) (hd : BE X tab z W d fd) :
    BE X tab z W (.Compare a [o, o2, o3] [b, c, d] pos) (fun e m => (fa e m).bind fun x m1 => (fb e m1).bind fun y m2 => (cmpT o x y m2).bind fun k m3 => match k with | .bl true => (fc e m3).bind fun w m4 => (cmpT o2 y w m4).bind fun k2 m5 => (match k2 with | .bl true => (fd e m5).bind fun u m6 => cmpT o3 w u m6 | .bl false => .ok (.bl false) m5 | _ => .bad) | .bl false => .ok (.bl false) m3 | _ => .bad) := by
  obtain ⟨r, h1, h2⟩ := cmp_ok (X := X) (sg X tab) rfl hu o
  obtain ⟨r', h1', h2'⟩ := cmp_ok (X := X) (sg X tab) rfl hu o2
  obtain ⟨r3, h13, h23⟩ := cmp_ok (X := X) (sg X tab) rfl hu o3
  refine pe_w (pe_tri h1 h1' h13 ha hb hc hd (lastMarks_of3 hs)) fun σ H Q ⟨g, e, m, rl, so, p⟩ => ?_
  refine lift_go rl so p fun g1 H1 x m1 v r1 so1 s1 hv p1 => ?_
  refine lift_go r1 so1 p1 fun g2 H2 y m2 u r2 so2 s2 hu p2 => ?_
  refine h2 g2 m2 H2 x y v u _ _ r2 (rep_mono s2 x v hv) hu (Po.imp (Po.bind p2) fun g3 H3 t m3 s3 r3 ⟨_, _, p3⟩ w hw => ?_)
  split at p3
  · refine ⟨true, hw, ?_⟩
    refine (show lift (sg X tab) z W fc σ H3 _ from lift_go r3 (slots_mono s3 so2) p3 fun g4 H4 w m4 q r4 so4 s4 hq p4 => ?_)
    refine h2' g4 m4 H4 y w u q _ _ r4 (rep_mono s4 y u (rep_mono s3 y u hu)) hq (Po.imp (Po.bind p4) fun g5 H5 t2 m5 s5 r5 ⟨_, _, p5⟩ w2 hw2 => ?_)
    split at p5
    · refine ⟨true, hw2, ?_⟩
      refine (show lift (sg X tab) z W fd σ H5 _ from lift_go r5 (slots_mono s5 so4) p5 fun g6 H6 w3 m6 q3 r6 so6 s6 hq3 p6 => ?_)
      exact h23 g6 m6 H6 w w3 q q3 Q _ r6 (rep_mono s6 w q (rep_mono s5 w q hq)) hq3 p6
    · exact ⟨false, hw2, PoT.now r5 p5 rfl⟩
    · exact p5.elim
  · exact ⟨false, hw, PoT.now r3 p3 rfl⟩
  · exact p3.elim
theorem bt_chn3 {a b c d : Expr} {fa fb fc fd : Sl → Sto → Rs T} {o o2 o3 : CmpOp} {pos : Pos} (hu : X.A.units + 65 < cLine) (hs : ∀ l k q, d ≠ .Set l k q)
    (ha : BE X tab z W a fa) (hb : BE X tab z W b fb) (hc : BE X tab z W c fc) (hd : BE X tab z W d fd) :
    BT X tab z W (.Compare a [o, o2, o3] [b, c, d] pos) (fun e m => (fa e m).bind fun x m1 => (fb e m1).bind fun y m2 => (cmpT o x y m2).bind fun k m3 => match k with | .bl true => (fc e m3).bind fun w m4 => (cmpT o2 y w m4).bind fun k2 m5 => (match k2 with | .bl true => (fd e m5).bind fun u m6 => cmpT o3 w u m6 | .bl false => .ok (.bl false) m5 | _ => .bad) | .bl false => .ok (.bl false) m3 | _ => .bad) := by
  obtain ⟨r, h1, h2⟩ := cmp_ok (X := X) (sg X tab) rfl hu o
  obtain ⟨r', h1', h2'⟩ := cmp_ok (X := X) (sg X tab) rfl hu o2
  obtain ⟨r3, h13, h23⟩ := cmp_ok (X := X) (sg X tab) rfl hu o3
  refine pt_w (pt_tri h1 h1' h13 ha hb hc hd (lastMarks_of3 hs)) fun σ H Q ⟨g, e, m, rl, so, p⟩ => ?_
  refine lift_go rl so p fun g1 H1 x m1 v r1 so1 s1 hv p1 => ?_
  refine lift_go r1 so1 p1 fun g2 H2 y m2 u r2 so2 s2 hu p2 => ?_
  refine h2 g2 m2 H2 x y v u _ _ r2 (rep_mono s2 x v hv) hu (Po.imp (Po.bind p2) fun g3 H3 t m3 s3 r3 ⟨_, _, p3⟩ w hw => ?_)
  split at p3
  · refine ⟨true, hw, ?_⟩
    refine (show lift (sg X tab) z W fc σ H3 _ from lift_go r3 (slots_mono s3 so2) p3 fun g4 H4 w m4 q r4 so4 s4 hq p4 => ?_)
    refine h2' g4 m4 H4 y w u q _ _ r4 (rep_mono s4 y u (rep_mono s3 y u hu)) hq (Po.imp (Po.bind p4) fun g5 H5 t2 m5 s5 r5 ⟨_, _, p5⟩ w2 hw2 => ?_)
    split at p5
    · refine ⟨true, hw2, ?_⟩
      refine (show lift (sg X tab) z W fd σ H5 _ from lift_go r5 (slots_mono s5 so4) p5 fun g6 H6 w3 m6 q3 r6 so6 s6 hq3 p6 => ?_)
      refine h23 g6 m6 H6 w w3 q q3 (fun x H' => ∃ k, x = .bl k ∧ Q k H') _ r6 (rep_mono s6 w q (rep_mono s5 w q hq)) hq3 (Po.imp p6 fun g' H' t m' s' r' ⟨b, e, q⟩ w hw => ?_)
      subst e
      exact ⟨b, hw, q⟩
    · obtain ⟨b, e, q⟩ := p5 g5 H5 (Stp.refl _ _) r5
      cases e
      exact ⟨false, hw2, _, rfl, q⟩
    · exact p5.elim
  · obtain ⟨b, e, q⟩ := p3 g3 H3 (Stp.refl _ _) r3
    cases e
    exact ⟨false, hw, _, rfl, q⟩
  · exact p3.elim
end
/-! ### a caught exception -/
/-- isinstance(e, c), isinstance(e, (c1, ..)), e the exception that the suite holds -/
def rIsX (K : PySem.W.Frag) (D a : Addr) (d : Option Addr) : List V → Hp → VK → Prop := fun xs H Q => (∀ dd, d = some dd → ∃ fs, H dd = some (.xd fs)) ∧
  ((∃ c u b, xs = [.ref a, c] ∧ ClsV c u ∧ PySem.W.kitOne K (.ref D) u = some b ∧ Q (.bl b) H) ∨
   (∃ tp cs us b, xs = [.ref a, .ref tp] ∧ H tp = some (.tup cs) ∧ Paired ClsV cs us ∧ PySem.W.kitAny K (.ref D) us = some b ∧ Q (.bl b) H))
theorem call_isX {X : Cx} {a D : Addr} {d : Option Addr} {oe : Obj} {pn : List (Addr × Obj)} (C : ExcC X.K D) (hz : Zc (.ref D) d oe) (hf : ∃ vs, oe.data = .fields vs) : CallR (X.suite a ((a, oe) :: pn)) (.builtin "isinstance") (rIsX X.K D a d) := by
  intro pins s σ H xs us Q I r h
  obtain ⟨hd, h⟩ := h
  obtain ⟨hget, _⟩ := I.pin (a, oe) (List.mem_append.mpr (.inl List.mem_cons_self))
  obtain ⟨vs, hv⟩ := hf
  have J : ∃ od, PySem.W.InstAt s.heap a oe D od := by
    cases d with
    | none =>
      refine ⟨none, hget, hz.1, by unfold PySem.W.notCls; rw [hv], ?_⟩
      rw [hz.2]
      trivial
    | some dd =>
      obtain ⟨fs, hfs⟩ := hd dd rfl
      obtain ⟨mA, hns, _⟩ := (show ObjOk X.prog X.w H s.heap dd (.xd fs) from I.hok dd _ hfs)
      obtain ⟨od, ho, _⟩ := lookIn_ns hns
      refine ⟨some od, hget, hz.1, by unfold PySem.W.notCls; rw [hv], ?_⟩
      rw [hz.2]
      exact ho
  obtain ⟨od, J⟩ := J
  have Z := PySem.W.kitx_exc (K := X.K) (C := D) (x := a) (ox := oe) (od := od) (by
    obtain ⟨cd, hc, _⟩ := PySem.W.any_some C.hd
    rw [hc]; rfl) C.hg C.hk C.hs C.ha C.hn C.ht C.hm
  rcases h with ⟨c, u, b, rfl, hcv, e, q⟩ | ⟨tp, cs, ws, b, rfl, hT, k, e, q⟩
  · obtain ⟨u1, u2, rfl, r1, r2⟩ := vals2 r
    cases (show u1 = Value.ref a from r1)
    have e2 := hcv.eq r2
    subst e2
    exact PySem.W.kia_one Z I.kIn J e (fun z => nomatch z) fun tk => ⟨.bl b, H, I.tok tk, rfl, q⟩
  · obtain ⟨u1, u2, rfl, r1, r2⟩ := vals2 r
    cases (show u1 = Value.ref a from r1)
    cases (show u2 = Value.ref tp from r2)
    obtain ⟨_, its, rv, o, h1, h2, n, h3⟩ := (show ObjOk X.prog X.w H s.heap tp (.tup cs) from I.hok tp _ hT)
    have e3 := ClsV.all k rv
    subst e3
    obtain ⟨oc, oo, dt, sl⟩ := o
    simp only at h2 h3
    subst h2 h3
    exact PySem.W.kia_tup Z I.kIn J h1 e (fun z => nomatch z) fun tk => ⟨.bl b, H, I.tok tk, rfl, q⟩
section
variable {G : Ctx} {tab : List (Str × List Str)} {rec : Sc → Expr → Option ME} {S : Sc} {X : Cx} {z : Option Xz} {W : WX}
/-- a class's name -/
theorem pe_clsN {x : Str} {v : V} {u : Value} {p : Pos} (hg : Gl X x) (hd : dbg x = false) (C : ClsN X.K X.mg x v u) : PE X (.Name x p) (tC v) := by
  have r : RelV v u := by
    cases C.k with
    | ty n => rfl
    | own C => rfl
  rcases C.ok with h | ⟨h1, h2, h3⟩
  · exact pe_glob hg h r (dbg_of hd).1
  · exact pe_bltn hg h1 h2 r h3 (dbg_of hd).1
theorem cXs_ok (xo : XOk G tab S X z W) : ∀ {es : List Expr} {css : List (List (Nat × Bool))}, cXs S.sc G.xis es = some css → ∃ vs us, PA X es (fun _ H Q => Q vs H) ∧ Paired ClsV vs us ∧ vs.length = css.length ∧ (∀ a ∈ es, isStar a = false) ∧
    ∀ c b n ks D, xisAny c css = some b → tab[c]? = some (n, ks) → X.mg n = some (.ref D) → PySem.W.kitAny X.K (.ref D) us = some b
  | [], css, h => by
    obtain rfl := Option.some.inj h
    refine ⟨[], [], pa_nil, .nil, rfl, (fun a ha => by cases ha), fun c b n ks D e _ _ => ?_⟩
    obtain rfl := Option.some.inj e
    rfl
  | e :: r, css, h => by
    cases e with
    | Name x p =>
      unfold cXs at h
      split at h
      · rename_i t l h1 h2
        split at h
        · rename_i c
          obtain rfl := Option.some.inj h
          rw [Bool.and_eq_true] at c
          obtain ⟨vs, us, i1, i2, i3, i4, i5⟩ := cXs_ok xo h2
          obtain ⟨k, gk, _⟩ := xo.gk
          obtain ⟨v, u, C, hC⟩ := gk.xis _ (lookup_mem h1)
          refine ⟨v :: vs, u :: us, pa_cons (pe_clsN (gl_of xo.sc c.1) (by simpa using c.2) C) i1, .cons C.k i2, by rw [List.length_cons, List.length_cons, i3], fun a ha => ?_, fun c b n ks D e1 e2 e3 => ?_⟩
          · rcases List.mem_cons.mp ha with rfl | ha
            · rfl
            · exact i4 a ha
          · unfold xisAny at e1
            split at e1
            · rename_i b1 b2 q1 q2
              obtain rfl := Option.some.inj e1
              obtain ⟨n', ks', w1, w2⟩ := hC c b1 q1
              rw [e2] at w1
              obtain ⟨rfl, rfl⟩ := Prod.mk.inj (Option.some.inj w1)
              exact kitAny_cons (w2 D e3).1 (fun zz => by rw [zz, Bool.false_or]; exact i5 c b2 n ks D q2 e2 e3) (fun zz => by rw [zz, Bool.true_or])
            · cases e1
        · cases h
      · cases h
    | _ => cases h
/-- a class that is asked here is one of the exceptions' -/
theorem cXs_exc (xo : XOk G tab S X z W) {es : List Expr} {css : List (List (Nat × Bool))} (h : cXs S.sc G.xis es = some css) (hne : es ≠ []) {c : Nat} {b : Bool} {n : Str} {ks : List Str} {D : Addr} (e1 : xisAny c css = some b) (e2 : tab[c]? = some (n, ks)) (e3 : X.mg n = some (.ref D)) : ExcC X.K D := by
  cases es with
  | nil => exact absurd rfl hne
  | cons e r =>
    cases e with
    | Name x p =>
      unfold cXs at h
      split at h
      · rename_i t l h1 h2
        split at h
        · obtain rfl := Option.some.inj h
          obtain ⟨k, gk, _⟩ := xo.gk
          obtain ⟨v, u, C, hC⟩ := gk.xis _ (lookup_mem h1)
          unfold xisAny at e1
          split at e1
          · rename_i b1 b2 q1 q2
            obtain ⟨n', ks', w1, w2⟩ := hC c b1 q1
            rw [e2] at w1
            obtain ⟨rfl, rfl⟩ := Prod.mk.inj (Option.some.inj w1)
            exact (w2 D e3).2
          · cases e1
        · cases h
      · cases h
    | _ => cases h
theorem hot_get (xo : XOk G tab S X z W) {i : Nat} (h : S.hot = some i) : ∃ x0, z = some x0 ∧ x0.i = i ∧ Suit X x0 := by
  cases z with
  | none =>
    have e := xo.hz
    rw [h] at e
    cases e
  | some x0 =>
    have e := xo.hot rfl
    rw [h] at e
    exact ⟨x0, rfl, (Option.some.inj e).symm, xo.hs x0 rfl⟩
/-- isinstance asked of a caught error of a class that the reading tells -/
def rIsY (K : PySem.W.Frag) (a : Addr) (cls : Value) (d : Option Addr) : List V → Hp → VK → Prop := fun xs H Q => ∃ D, cls = .ref D ∧ ExcC K D ∧ rIsX K D a d xs H Q
theorem call_isY {a : Addr} {cls : Value} {d : Option Addr} {oe : Obj} {pn : List (Addr × Obj)} (hz : Zc cls d oe) (hf : ∃ vs, oe.data = .fields vs) : CallR (X.suite a ((a, oe) :: pn)) (.builtin "isinstance") (rIsY X.K a cls d) := by
  intro pins s σ H xs us Q I r ⟨D, e, C, h⟩
  subst e
  exact call_isX C hz hf pins s σ H xs us Q I r h
theorem repX_xd {S : Sg} {g : Gh} {H : Hp} {c : Nat} {xs : List T} {cls : Value} {d : Option Addr} (h : repX S g H c xs cls d) : ∃ n ks D, S.tab[c]? = some (n, ks) ∧ S.mg n = some (.ref D) ∧ cls = .ref D ∧ ∀ dd, d = some dd → ∃ fs, H dd = some (.xd fs) := by
  obtain ⟨n, ks, C, h1, h2, h3, h4⟩ := h
  refine ⟨n, ks, C, h1, h2, h3, fun dd hd => ?_⟩
  cases xs with
  | nil =>
    have h4' : d = none := h4
    rw [hd] at h4'
    cases h4'
  | cons x xs =>
    obtain ⟨d', v, f, e1, e2, e3, _⟩ := h4
    rw [hd] at e1
    obtain rfl := Option.some.inj e1
    exact ⟨_, e3⟩
theorem kitAny_one {K : PySem.W.Frag} {t u : Value} {b : Bool} (h : PySem.W.kitAny K t [u] = some b) : PySem.W.kitOne K t u = some b := by
  unfold PySem.W.kitAny at h
  split at h
  · rename_i q; rw [q]; exact h
  · rename_i q; rw [q]; exact h
  · cases h
theorem hotOf_ok (xo : XOk G tab S X z W) {a : Expr} {i : Nat} (h : hotOf S a = some i) : isStar a = false ∧ isCall a = false ∧ S.hot = some i ∧ PE X a (tVar i) := by
  unfold hotOf at h
  split at h
  · rename_i x p
    split at h
    · cases h
    · rename_i hd
      have hd := dbg_of (Bool.not_eq_true _ ▸ hd)
      split at h
      · rename_i hv
        split at h
        · rename_i j hj
          split at h
          · rename_i hh
            obtain rfl := Option.some.inj h
            exact ⟨rfl, rfl, hh, pe_var (by rw [xo.N]; exact ixOf_0 hj) (by rw [xo.sc]; exact vis_of hv) hd.1 hd.2⟩
          · cases h
        · cases h
      · cases h
  · cases h
end
section
variable {G : Ctx} {tab : List (Str × List Str)} {rec : Sc → Expr → Option ME} {S : Sc} {X : Cx} {z : Option Xz} {W : WX}
theorem be_xis1 (xo : XOk G tab S X z W) {a : Expr} {y : Str} {q p pos : Pos} {i : Nat} {css : List (List (Nat × Bool))} (hg : Gl X "isinstance") (hm : X.mg "isinstance" = none) (h1 : hotOf S a = some i) (h2 : cXs S.sc G.xis [.Name y q] = some css) :
    BE X tab z W (.Call (.Name "isinstance" p) [a, .Name y q] [] pos) (den (.xis i css)) := by
  obtain ⟨s1, s2, s3, s4⟩ := hotOf_ok xo h1
  obtain ⟨vs, us, k1, k2, k3, k4, k5⟩ := cXs_ok xo h2
  have kx := fun {c b n ks D} => cXs_exc (c := c) (b := b) (n := n) (ks := ks) (D := D) xo h2 (by simp)
  obtain ⟨x0, ez, ei, X0, oe, pn, eX, hz, hf⟩ := hot_get xo s3
  subst eX
  refine pe_w (pe_callB (call_isY hz hf) hg hm (by decide +kernel) (pa_cons s4 k1 (star_of (star_ne s1))) (by decide) (by decide) (star_of (star_ne s1)) rfl) fun σ H Q ⟨g, e, m, rl, so, p⟩ => ?_
  simp only [den] at p
  split at p
  · rename_i c xs he
    split at p
    · rename_i b hb
      rw [← ei] at he
      obtain ⟨w1, w2⟩ := so.2.2 x0 ez c xs he
      obtain ⟨n, ks, D, t1, t2, t3, t4⟩ := repX_xd w2
      rw [ei] at w1
      refine ⟨.ref x0.a, w1, D, t3, kx hb t1 t2, t4, .inl ?_⟩
      have kk := k5 c b n ks D hb t1 t2
      have l1 : css.length = 1 := by
        unfold cXs at h2
        split at h2
        · rename_i t l q1 q2
          split at h2
          · obtain rfl := Option.some.inj h2
            obtain rfl : [] = l := Option.some.inj q2
            rfl
          · cases h2
        · cases h2
      rw [l1] at k3
      match vs, us, k2, k3 with
      | [v], [u], .cons k .nil, _ => exact ⟨v, u, b, rfl, k, kitAny_one kk, PoT.now rl p rfl⟩
    · exact p.elim
  · exact p.elim
theorem be_xisN (xo : XOk G tab S X z W) {a : Expr} {es : List Expr} {kk : Nat} {q p pos : Pos} {i : Nat} {css : List (List (Nat × Bool))} (hg : Gl X "isinstance") (hm : X.mg "isinstance" = none) (h1 : hotOf S a = some i) (h2 : cXs S.sc G.xis es = some css) (hne : es ≠ []) (hl : css.length ≤ 1000) :
    BE X tab z W (.Call (.Name "isinstance" p) [a, .Tuple es kk q] [] pos) (den (.xis i css)) := by
  obtain ⟨s1, s2, s3, s4⟩ := hotOf_ok xo h1
  obtain ⟨vs, us, k1, k2, k3, k4, k5⟩ := cXs_ok xo h2
  have kx := fun {c b n ks D} => cXs_exc (c := c) (b := b) (n := n) (ks := ks) (D := D) xo h2 hne
  obtain ⟨x0, ez, ei, X0, oe, pn, eX, hz, hf⟩ := hot_get xo s3
  subst eX
  refine pe_w (pe_callB (call_isY hz hf) hg hm (by decide +kernel) (pa_cons s4 (pa_cons (pe_tup k1) pa_nil) (star_of (star_ne s1))) (by decide) (by decide) (star_of (star_ne s1)) rfl) fun σ H Q ⟨g, e, m, rl, so, p⟩ => ?_
  simp only [den] at p
  split at p
  · rename_i c xs he
    split at p
    · rename_i b hb
      rw [← ei] at he
      obtain ⟨w1, w2⟩ := so.2.2 x0 ez c xs he
      obtain ⟨n, ks, D, t1, t2, t3, t4⟩ := repX_xd w2
      rw [ei] at w1
      refine ⟨.ref x0.a, w1, by rw [sizeL, k3]; omega, fun t ht => ⟨D, t3, kx hb t1 t2, fun dd hd => ?_, .inr ⟨t, vs, us, b, rfl, upd_same, k2, k5 c b n ks D hb t1 t2, ?_⟩⟩⟩
      · obtain ⟨fs, hfs⟩ := t4 dd hd
        exact ⟨fs, by rw [upd_ne (ne_of_none hfs ht)]; exact hfs⟩
      · have ex := ext_upd (o := .tup vs) ht
        exact PoT.now (rl.ext ex) (Po.later (Stp.ext ex) p) rfl
    · exact p.elim
  · exact p.elim
theorem be_xfl (xo : XOk G tab S X z W) {o : Expr} {f : Str} {pos : Pos} {i : Nat} {cs : List Nat} (h1 : hotOf S o = some i) (h2 : G.xfl.lookup f = some cs) : BE X tab z W (.Attribute o f pos) (den (.xfl i cs)) := by
  obtain ⟨s1, s2, s3, s4⟩ := hotOf_ok xo h1
  obtain ⟨k, gk, _⟩ := xo.gk
  have F := gk.xfl _ (lookup_mem h2)
  obtain ⟨x0, ez, ei, X0, oe, pn, eX, hz, hf⟩ := hot_get xo s3
  subst eX
  refine ⟨fun pins s σ H Q I ⟨g, e, m, rl, so, p⟩ => ?_⟩
  simp only [den] at p
  split at p
  · rename_i c t ts he
    split at p
    · rename_i hc
      rw [← ei] at he
      obtain ⟨w1, w2⟩ := so.2.2 x0 ez c _ he
      rw [ei] at w1
      obtain ⟨n, ks, C, t1, t2, t3, dd, v, f', e1, e2, e3, e4, e5, e6⟩ := w2
      obtain ⟨n', w3, w4⟩ := F c (List.contains_iff_mem.mp hc)
      have t1' : tab[c]? = some (n, ks) := t1
      rw [w3] at t1'
      obtain ⟨rfl, rfl⟩ := Prod.mk.inj (Option.some.inj t1')
      obtain ⟨T, hno⟩ := w4 C t2
      have ef : f = f' := (List.cons.inj e2).1
      subst ef
      exact (pe_xf T hno hz hf s4 (base_of s2)).run pins s σ H Q I ⟨.ref x0.a, w1, rfl, t3, dd, _, v, e1, e3, by simp [List.lookup], PoT.now rl p e5⟩
    · exact p.elim
  · exact p.elim
/-- the exception that is handled, handed on -/
theorem be_xcall (xo : XOk G tab S X z W) {x : Str} {p pos : Pos} {a : Expr} {i : Nat} {f : Fn} (hg : Gl X x) (hd : (x == ("__debug__" : Str)) = false) (h1 : hotOf S a = some i) (h2 : G.hfs.lookup x = some f) : BE X tab z W (.Call (.Name x p) [a] [] pos) (den (.xcall f i)) := by
  obtain ⟨s1, s2, s3, s4⟩ := hotOf_ok xo h1
  obtain ⟨k, gk, _, rh⟩ := xo.gk
  obtain ⟨j, hj, ⟨ad, fd, ps, g1, g2, F, hb⟩⟩ := gk.hfs _ (lookup_mem h2)
  obtain ⟨x0, ez, ei, X0, oe, pn, eX, hz, hf⟩ := hot_get xo s3
  have hu := rh.mono hj
  have hh : X.A.handled = some (.ref x0.a) := by rw [eX]; rfl
  have hpn : (x0.a, oe) ∈ X.pn := by rw [eX]; exact List.mem_cons_self
  refine ⟨fun pins s σ H Q I ⟨g, e, m, rl, so, p⟩ => ?_⟩
  simp only [den] at p
  split at p
  · rename_i c xs he
    rw [← ei] at he
    obtain ⟨w1, w2⟩ := so.2.2 x0 ez c xs he
    rw [ei] at w1
    refine wpAny_Call_Name_kw (ld_glob I hg g1 ?_ hd)
    refine PySem.W.callWith_K (h₀ := X.base) I.ok.mod.kin g2 (thn ((pa_cons s4 pa_nil (star_of (star_ne s1))).run pos pins s σ H (fun vs H1 => vs = [V.ref x0.a] ∧ H1 = H) I ⟨_, w1, rfl, rfl⟩) fun us t1 ⟨vs, H1, I1, r, q1, q2⟩ => ⟨I1.kIn, ?_⟩) (star_of (star_ne s1)) rfl
    subst q1 q2
    obtain rfl := Vals.ref1 r
    have P1 := I1.pin (x0.a, oe) (List.mem_append_left _ hpn)
    have bd := hb t1 [Value.ref x0.a] I1.kIn (by rw [List.append_nil, F.one]; rfl)
    rw [List.append_nil] at bd
    refine wpAny_call (codeAny_mono (F.run X.A X.stack t1 H1 ⟨[Value.ref x0.a], []⟩ g m c xs x0.a oe x0.cls x0.d Q hu hh hz hf ⟨P1.1, P1.2.1, fun hm => (List.mem_cons.mp (I1.stkSub _ hm)).elim P1.2.2.1 P1.2.2.2.1, P1.2.2.2.2⟩ I1.env0 bd rl w2 (Po.nox p)) fun r s' hq => ?_)
    obtain ⟨u, rfl, hq⟩ := hq
    exact I1.after hq
  · exact p.elim
theorem calm_of (xo : XOk G tab S X z W) (h : S.calm = true) : X.calm = true := by rw [xo.calm]; exact h
theorem denL_snoc {d : T} : ∀ (l : List ME) (e : Sl) (m : Sto), denL (l ++ [.cst d]) e m = (denL l e m).bind fun ts m' => .ok (ts ++ [d]) m'
  | [], e, m => by simp only [List.nil_append, denL, den, bind_ok]
  | a :: l, e, m => by
    simp only [List.cons_append, denL]
    cases den a e m with
    | ok x m1 =>
      simp only [bind_ok]
      rw [denL_snoc l e m1]
      cases denL l e m1 <;> simp only [bind_ok, bind_exc, bind_bad, List.cons_append]
    | exc c xs m1 => rfl
    | bad => rfl
theorem cCall_ok (ok : RecOk G tab rec) (xo : XOk G tab S X z W) {x : Str} {p pos : Pos} {args : List Expr} {m : ME} (h : cCall G rec S x args = some m) : BE X tab z W (.Call (.Name x p) args [] pos) (den m) := by
  have neg : ∀ {a : Expr}, isStar a ≠ true → ∀ x p, a ≠ .Starred x p := fun h => star_ne (Bool.not_eq_true _ ▸ h)
  unfold cCall at h
  split at h
  · cases h
  · rename_i hx0
    rw [Bool.or_eq_true, not_or] at hx0
    have hd := (dbg_of (Bool.not_eq_true _ ▸ hx0.1)).1
    have hg : Gl X x := gl_of xo.sc (by simpa using hx0.2)
    split at h
    · rename_i ex
      subst ex
      split at h
      · rename_i hb
        have hm := bis_none xo hb
        split at h
        · rename_i a y q
          split at h
          · rename_i i hi
            split at h
            · rename_i css hcs
              obtain rfl := Option.some.inj h
              exact be_xis1 xo hg hm hi hcs
            · cases h
          · split at h
            · cases h
            · rename_i hs
              split at h
              · rename_i t ma ht hma
                split at h
                · rename_i c
                  obtain rfl := Option.some.inj h
                  rw [Bool.and_eq_true] at c
                  obtain rfl := tyOf_eq ht
                  exact be_cast (be_isi hg hm (gl_of xo.sc c.1) (bis_none xo c.2) (neg hs) (ok S X z W xo a ma hma).1) fun s m => by simp only [den] <;> rfl
                · cases h
              · cases h
        · rename_i a es kk q
          split at h
          · rename_i i hi
            split at h
            · rename_i css hcs
              split at h
              · rename_i c
                obtain rfl := Option.some.inj h
                exact be_xisN xo hg hm hi hcs (by
                  rintro rfl
                  exact absurd c.1 (by simp)) c.2
              · cases h
            · cases h
          · split at h
            · cases h
            · rename_i hs
              split at h
              · rename_i t l ma ht hma
                split at h
                · rename_i c
                  obtain rfl := Option.some.inj h
                  exact be_cast (be_isn hg hm (cTs_ok xo ht) c (neg hs) (ok S X z W xo a ma hma).1) fun s m => by simp only [den] <;> rfl
                · cases h
              · cases h
        · cases h
      · cases h
    · split at h
      · rename_i f hf
        split at h
        · rename_i a
          obtain ⟨i, hi, rfl⟩ := map_some h
          exact be_xcall xo hg hd hi hf
        · cases h
      split at h
      · rename_i n f hf
        split at h
        · rename_i c
          rw [Bool.and_eq_true, Bool.and_eq_true, decide_eq_true_eq] at c
          obtain ⟨l, hl, rfl⟩ := map_some h
          obtain ⟨k, gk, hr, _⟩ := xo.gk
          obtain ⟨j, hj, ⟨ad, fd, ps, h1, h2, h3, h4, h5⟩⟩ := gk.fns _ (lookup_mem hf)
          obtain ⟨hst, hlen⟩ := cL_star hl
          cases args with
          | nil => cases c.2
          | cons a es =>
            refine be_cast (be_call (k := j) (n := n) xo.tk ((hr c.1.1).mono hj) hg h1 h2 ⟨fd, ps, h3, h4, h5⟩ hd (star_ne (hst a List.mem_cons_self)) (plain_star fun b hb => hst b (List.mem_cons_of_mem _ hb)) (cL_ok ok xo hl)) fun s m => by simp only [den] <;> rfl
        · cases h
      · split at h
        · rename_i c0 f d hf
          split at h
          · rename_i c
            rw [Bool.and_eq_true] at c
            obtain ⟨l, hl, rfl⟩ := map_some h
            obtain ⟨k, gk, hr, _⟩ := xo.gk
            unfold mkdOf at hf
            split at hf
            · rename_i k0 c1 f1 d1 hf1
              split at hf
              · obtain ⟨e1, e2⟩ := Prod.mk.inj (Option.some.inj hf)
                obtain ⟨e2, e3⟩ := Prod.mk.inj e2
                subst e1 e2 e3
                obtain ⟨j, hj, M⟩ := gk.mkd _ (lookup_mem hf1)
                obtain ⟨ks, C, fI, fd, ps, v, ds, m1, m2, m3, m4, m5, m6, m7⟩ := M.ok
                obtain ⟨hst, hlen⟩ := cL_star hl
                cases args with
                | nil => cases c.2
                | cons a es =>
                  exact be_cast (be_mkD (k := j) xo.tk ((hr c.1).mono hj) hg m1 m2 m3 m4 m5 m6 m7 hd (star_ne (hst a List.mem_cons_self)) (plain_star fun b hb => hst b (List.mem_cons_of_mem _ hb)) (cL_ok ok xo hl)) fun s m => by
                    simp only [den]
                    rw [denL_snoc]
                    cases denL l s m <;> rfl
              · cases hf
            · cases hf
          · cases h
        split at h
        · rename_i c0 fz f hf
          split at h
          · rename_i c
            rw [Bool.and_eq_true] at c
            obtain ⟨l, hl, rfl⟩ := map_some h
            obtain ⟨k, gk, hr, _⟩ := xo.gk
            obtain ⟨j, hj, M⟩ := gk.mks _ (lookup_mem hf)
            obtain ⟨ks, C, fI, fd, ps, m1, m2, m3, m4, m5⟩ := M.ok
            have M' : MkB X tab j x c0 f := ⟨ks, C, fI, fd, ps, m1, m2, m3, m4, m5⟩
            obtain ⟨hst, hlen⟩ := cL_star hl
            cases fz with
            | true =>
              cases args with
              | nil => cases c.2
              | cons a es =>
                exact be_cast (be_mkF (k := j) (c := c0) (f := f) xo.tk ((hr c.1).mono hj) hg M' hd (star_ne (hst a List.mem_cons_self)) (plain_star fun b hb => hst b (List.mem_cons_of_mem _ hb)) (cL_ok ok xo hl)) fun s m => by simp only [if_true, den]
            | false =>
              cases args with
              | nil =>
                obtain rfl : [] = l := Option.some.inj hl
                exact be_cast (be_mk0 (k := j) (c := c0) (f := f) xo.tk ((hr c.1).mono hj) hg M' hd) fun s m => by simp only [Bool.false_eq_true, if_false, den, denL, bind_ok]
              | cons a es =>
                exact be_cast (be_mk (k := j) (c := c0) (f := f) xo.tk ((hr c.1).mono hj) hg M' hd (star_ne (hst a List.mem_cons_self)) (plain_star fun b hb => hst b (List.mem_cons_of_mem _ hb)) (cL_ok ok xo hl)) fun s m => by simp only [Bool.false_eq_true, if_false, den]
          · cases h
        · split at h
          · rename_i b hb
            split at h
            · rename_i c
              rw [Bool.and_eq_true, Bool.and_eq_true, Bool.or_eq_true] at c
              obtain ⟨l, hl, rfl⟩ := map_some h
              obtain ⟨hst, hlen⟩ := cL_star hl
              cases args with
              | nil => cases c.2
              | cons a es =>
                exact be_cast (be_bi b xo.un (c.1.2.imp (calm_of xo) id) (biOf_eq hb) hg (bis_none xo c.1.1) (star_ne (hst a List.mem_cons_self)) (plain_star fun b hb => hst b (List.mem_cons_of_mem _ hb)) (cL_ok ok xo hl)) fun s m => by simp only [den] <;> rfl
            · cases h
          · cases h
theorem few_of {args : List Expr} {env : Env} {pos : Pos} (hs : ∀ a ∈ args, isStar a = false) (hn : args.length < 30) :
    ((backTo pos (starEach args env)).all (fun x => !x.1) && (backToKw pos (keywordEach [] env)).all (fun x => x.1.isSome)
      && decide (args.length + ([] : List Keyword).length + (if ([] : List Keyword).isEmpty then 0 else 1) < 30)) = true := by
  rw [all_star hs]
  show (true && true && decide (args.length + 0 + 0 < 30)) = true
  simp [hn]
theorem bmsOf_ok {mu : List Str} {x : Str} {n : Nat} : bmOks x (bmsOf mu x n) = true := by
  unfold bmsOf
  repeat' split
  all_goals first | rfl | (subst_vars; decide +kernel) | (rename_i e _; subst e; decide +kernel) | (rename_i e _ _; subst e; decide +kernel) | (rename_i e _ _ _; subst e; decide +kernel)
theorem cDict_ok (ok : RecOk G tab rec) (xo : XOk G tab S X z W) {pos : Pos} : ∀ {keys : List (Option Expr)} {vals : List Expr} {l : List ME}, cDict (rec S) keys vals = some l → ∃ es, Alt keys vals es ∧ l.length = es.length ∧ PPs X pos keys vals (trOf (sg X tab) z W l)
  | [], [], l, h => by
    obtain rfl := Option.some.inj h
    exact ⟨[], .nil, rfl, pps_nil⟩
  | some k :: ks, v :: vs, l, h => by
    unfold cDict at h
    split at h
    · rename_i a b l' h1 h2 h3
      obtain rfl := Option.some.inj h
      obtain ⟨es, i1, i2, i3⟩ := cDict_ok ok xo h3
      exact ⟨k :: v :: es, .cons i1, by rw [List.length_cons, List.length_cons, List.length_cons, List.length_cons, i2], pps_cons (ok S X z W xo k a h1).1 (ok S X z W xo v b h2).1 i3⟩
    · cases h
  | [], _ :: _, _, h => nomatch h
  | none :: _, _, _, h => by unfold cDict at h; cases h
  | some _ :: _, [], _, h => nomatch h
theorem cVcall_ok (ok : RecOk G tab rec) (xo : XOk G tab S X z W) {o : Expr} {m : Str} {apos pos : Pos} {args : List Expr} {r : ME} (h : cVcall G rec S o m apos args pos = some r) : BE X tab z W (.Call (.Attribute o m apos) args [] pos) (den r) := by
  unfold cVcall at h
  split at h
  · cases h
  · rename_i c
    rw [Bool.or_eq_true, not_or, Bool.or_eq_true, not_or, Bool.or_eq_true, not_or, Bool.or_eq_true, not_or, decide_eq_true_eq] at c
    obtain ⟨⟨⟨⟨c1, c2⟩, c3⟩, c4⟩, c5⟩ := c
    have c1 : isCall o = false := Bool.not_eq_true _ ▸ c1
    have c2 : (apos.endLine == pos.line) = true := by simpa using c2
    have c3 : S.calm = true := by simpa using c3
    split at h
    · rename_i fs mo l hf ho hl
      obtain rfl := Option.some.inj h
      obtain ⟨hst, hlen⟩ := cL_star hl
      obtain ⟨k, gk, hr, _⟩ := xo.gk
      have F := gk.flds _ (lookup_mem hf)
      have ht := meth_eq (o := o) (m := m) (apos := apos) (pos := pos) (env := X.env) c1 c2 hst (by omega)
      cases args with
      | nil => exact absurd rfl c5
      | cons a es =>
        refine be_cast (be_vcall (k := k) (fs := fs) (hs' := G.hld) F (fun x hx ad hm => ?_) xo.tk (hr c3) (star_ne (hst a List.mem_cons_self)) (plain_star fun b hb => hst b (List.mem_cons_of_mem _ hb)) ht (ok S X z W xo o mo ho).1 (cL_ok ok xo hl)) fun s m => by simp only [den] <;> rfl
        obtain ⟨j, hj, fd, ps, h2, h4, h5⟩ := gk.hld x hx ad hm
        exact ⟨fd, ps, h2, h4.mono hj, h5⟩
    · cases h
theorem cMethD_ok (ok : RecOk G tab rec) (xo : XOk G tab S X z W) {o : Expr} {m : Str} {n : Nat} {apos pos : Pos} {args : List Expr} {r : ME} {fs : List (Nat × Fn)} {d : T} (hd : mthdOf G m n = some (fs, d)) (h : cMethD rec S fs d o apos args pos = some r) : BE X tab z W (.Call (.Attribute o m apos) args [] pos) (den r) := by
  unfold cMethD at h
  split at h
  · cases h
  · rename_i c
    rw [Bool.or_eq_true, not_or, Bool.or_eq_true, not_or, Bool.or_eq_true, not_or, decide_eq_true_eq] at c
    obtain ⟨⟨⟨c1, c2⟩, c3⟩, c4⟩ := c
    have c1 : isCall o = false := Bool.not_eq_true _ ▸ c1
    have c2 : (apos.endLine == pos.line) = true := by simpa using c2
    have c3 : S.calm = true := by simpa using c3
    split at h
    · rename_i mo l ho hl
      obtain rfl := Option.some.inj h
      obtain ⟨hst, hlen⟩ := cL_star hl
      obtain ⟨k, gk, hr, _⟩ := xo.gk
      unfold mthdOf at hd
      split at hd
      · rename_i k' fs' d' hf
        split at hd
        · obtain ⟨rfl, rfl⟩ := Prod.mk.inj (Option.some.inj hd)
          obtain ⟨j, hj, M⟩ := gk.mthd _ (lookup_mem hf)
          have hr' := (hr c3).mono hj
          have ht := meth_eq (o := o) (m := m) (apos := apos) (pos := pos) (env := X.env) c1 c2 hst (by omega)
          cases args with
          | nil =>
            obtain rfl : [] = l := Option.some.inj hl
            exact be_cast (be_methD0 (fs := fs') M xo.tk hr' ht (ok S X z W xo o mo ho).1) fun s m => by
              simp only [den, denL_snoc, denL, bind_ok, List.nil_append] <;> rfl
          | cons a es =>
            refine be_cast (be_methD (fs := fs') M xo.tk hr' (star_ne (hst a List.mem_cons_self)) (plain_star fun b hb => hst b (List.mem_cons_of_mem _ hb)) ht (ok S X z W xo o mo ho).1 (cL_ok ok xo hl)) fun s m => ?_
            simp only [den]
            cases den mo s m with
            | ok x m1 =>
              rw [bind_ok, bind_ok]
              cases methF fs' x m1 with
              | none => rfl
              | some F =>
                dsimp only
                rw [denL_snoc]
                cases denL l s m1 <;> rfl
            | exc c xs m1 => rfl
            | bad => rfl
        · cases hd
      · cases hd
    · cases h
theorem cMeth_ok (ok : RecOk G tab rec) (xo : XOk G tab S X z W) {o : Expr} {m : Str} {apos pos : Pos} {args : List Expr} {r : ME} (h : cMeth G rec S o m apos args pos = some r) : BE X tab z W (.Call (.Attribute o m apos) args [] pos) (den r) := by
  unfold cMeth at h
  split at h
  · cases h
  · rename_i c
    rw [Bool.or_eq_true, not_or, Bool.or_eq_true, not_or, Bool.or_eq_true, not_or, decide_eq_true_eq] at c
    obtain ⟨⟨⟨c1, c2⟩, c3⟩, c4⟩ := c
    have c1 : isCall o = false := Bool.not_eq_true _ ▸ c1
    have c2 : (apos.endLine == pos.line) = true := by simpa using c2
    split at h
    · rename_i fs mo l hf ho hl
      have c3 : S.calm = true := by
        cases hc : S.calm with
        | true => rfl
        | false =>
          rw [hc, hf] at c3
          exact absurd rfl c3
      obtain rfl := Option.some.inj h
      obtain ⟨hst, hlen⟩ := cL_star hl
      obtain ⟨k, gk, hr, _⟩ := xo.gk
      obtain ⟨j, hj, M⟩ := gk.mths _ (lookup_mem hf)
      have hr' := (hr c3).mono hj
      have ht := meth_eq (o := o) (m := m) (apos := apos) (pos := pos) (env := X.env) c1 c2 hst (by omega)
      cases args with
      | nil =>
        obtain rfl : [] = l := Option.some.inj hl
        exact be_cast (be_meth0 (fs := fs) M xo.tk hr' ht (ok S X z W xo o mo ho).1) fun s m => by simp only [den, denL, bind_ok] <;> rfl
      | cons a es =>
        exact be_cast (be_meth (fs := fs) M xo.tk hr' (star_ne (hst a List.mem_cons_self)) (plain_star fun b hb => hst b (List.mem_cons_of_mem _ hb)) ht (ok S X z W xo o mo ho).1 (cL_ok ok xo hl)) fun s m => by simp only [den] <;> rfl
    · rename_i mo l hf ho hl
      split at h
      case isFalse hbm =>
        obtain rfl := Option.some.inj h
        obtain ⟨hst, hlen⟩ := cL_star hl
        have hu : X.A.units + 1 < cLine := by have := xo.un; omega
        have hok := bmsOf_ok (mu := G.muts) (x := m) (n := args.length)
        cases args with
        | nil =>
          obtain rfl : [] = l := Option.some.inj hl
          exact be_cast (be_bm0 hu hok (ok S X z W xo o mo ho).1 (base_of c1) c2) fun s m => by simp only [den, denL, bmD, bind_ok] <;> rfl
        | cons a es =>
          have ha := cL_ok ok xo hl
          have hfew := few_of (env := X.env) (pos := pos) hst (by omega)
          have s1 := star_ne (hst a List.mem_cons_self)
          have s2 := plain_star (pos := pos) (env := X.env) fun b hb => hst b (List.mem_cons_of_mem _ hb)
          exact be_cast (be_bm hu hok (ok S X z W xo o mo ho).1 ha (base_of c1) hfew c2 (star_of s1) s2) fun s m => by simp only [den, bmD] <;> rfl
      split at h
      · cases h
      · rename_i c5
        obtain ⟨k, hk, rfl⟩ := map_some h
        obtain ⟨hst, hlen⟩ := cL_star hl
        have e1 := smOf_eq hk
        cases args with
        | nil => exact absurd rfl c5
        | cons a es =>
          have ha := cL_ok ok xo hl
          have hfew := few_of (env := X.env) (pos := pos) hst (by omega)
          have s1 := star_ne (hst a List.mem_cons_self)
          have s2 := plain_star (pos := pos) (env := X.env) fun b hb => hst b (List.mem_cons_of_mem _ hb)
          subst e1
          exact be_cast (be_sm k (ok S X z W xo o mo ho).1 ha (base_of c1) hfew c2 (star_of s1) s2) fun s m => by simp only [den] <;> rfl
    · cases h
theorem ba' {a b : Bool} (h : (a && b) = true) : a = true ∧ b = true := by rwa [Bool.and_eq_true] at h
theorem okT_and {j : Nat} {op : BoolOp} {vs : List Expr} {p : Pos} (h : okT j (.BoolOp op vs p) = true) : ∃ i, vs.all (okT i) = true := by
  cases j with
  | zero => cases h
  | succ i => exact ⟨i, h⟩
theorem okT_not {j : Nat} {a : Expr} {p : Pos} (h : okT j (.UnaryOp .Not a p) = true) : ∃ i, okT i a = true := by
  cases j with
  | zero => cases h
  | succ i => exact ⟨i, h⟩
theorem okT_ite {j : Nat} {a b c : Expr} {p : Pos} (h : okT j (.IfExp a b c p) = true) : False := by
  cases j with
  | zero => cases h
  | succ i => cases h
theorem cStep_ok (ok : RecOk G tab rec) : RecOk G tab (cStep G rec) := by
  have neg : ∀ {a : Expr}, isStar a ≠ true → ∀ x p, a ≠ .Starred x p := fun h => star_ne (Bool.not_eq_true _ ▸ h)
  intro S X z W xo e m h
  have val : ∀ {f : Sl → Sto → Rs T}, BE X tab z W e f → (∀ whole, isTrue e X.env whole = (do let v ← whole; standAt e.pos; holding [v] (truthy v))) → BE X tab z W e f ∧ ∀ j, okT j e = true → BT X tab z W e f := fun h he => ⟨h, fun _ _ => bt_val h he⟩
  unfold cStep at h
  split at h
  · -- a name
    rename_i x p
    split at h
    · cases h
    · rename_i hd
      have hd := dbg_of (Bool.not_eq_true _ ▸ hd)
      split at h
      · rename_i hv
        obtain ⟨i, hi, rfl⟩ := map_some h
        refine val (be_var (pe_var (by rw [xo.N]; exact ixOf_0 hi) (by rw [xo.sc]; exact vis_of hv) hd.1 hd.2)) (by intro _; rfl)
      · split at h
        · rename_i hg
          split at h
          · obtain ⟨t, ht, rfl⟩ := map_some h
            obtain ⟨k, gk, _⟩ := xo.gk
            obtain ⟨j, hj, F⟩ := gk.fns _ (lookup_mem ht)
            obtain ⟨ad, fd, ps, h1, h2, h3, h4, h5⟩ := F.ok
            refine val (pe_w (pe_glob (v := V.ref ad) (gl_of xo.sc hg) h1 rfl hd.1) fun σ H Q ⟨g, e, m, rl, so, p⟩ => ?_) (by intro _; rfl)
            simp only [den] at p
            exact PoT.now rl p ⟨ad, rfl, h1⟩
          obtain ⟨t, ht, rfl⟩ := map_some h
          obtain ⟨k, gk, _⟩ := xo.gk
          obtain ⟨u, v, h1, h2, h3⟩ := gk.csts _ (lookup_mem ht)
          exact val (be_cst (pe_glob (gl_of xo.sc hg) h1 h2 hd.1) h3) (by intro _; rfl)
        · cases h
  · -- a constant
    rename_i c i p
    split at h
    · obtain rfl := Option.some.inj h
      exact val (be_cst pe_non fun _ _ _ _ => rfl) (by intro _; rfl)
    · obtain rfl := Option.some.inj h
      exact val (be_cst pe_bl fun _ _ _ _ => rfl) (by intro _; rfl)
    · obtain rfl := Option.some.inj h
      exact val (be_cst pe_int fun _ _ _ _ => rfl) (by intro _; rfl)
    · split at h
      · rename_i x c
        obtain rfl := Option.some.inj h
        exact val (be_cst pe_str fun _ _ _ _ => ⟨rfl, c⟩) (by intro _; rfl)
      · cases h
    · cases h
  · -- a list
    rename_i es p
    split at h
    · rename_i l hl
      split at h
      · rename_i c
        obtain rfl := Option.some.inj h
        exact val (be_lst false c (cL_ok ok xo hl)) (by intro _; rfl)
      · cases h
    · cases h
  · -- a tuple
    rename_i es k p
    split at h
    · rename_i l hl
      split at h
      · rename_i c
        obtain rfl := Option.some.inj h
        exact val (be_tup c (cL_ok ok xo hl)) (by intro _; rfl)
      · cases h
    · cases h
  · -- an operator
    rename_i a o b p
    split at h
    · rename_i x y hx hy
      obtain rfl := Option.some.inj h
      exact val (be_cast (be_bin (ok S X z W xo a x hx).1 (ok S X z W xo b y hy).1) fun s m => by simp only [den] <;> rfl) (by intro _; rfl)
    · cases h
  · -- minus
    rename_i a p
    obtain ⟨x, hx, rfl⟩ := map_some h
    exact val (be_cast (be_neg (ok S X z W xo a x hx).1) fun s m => by simp only [den] <;> rfl) (by intro _; rfl)
  · -- not
    rename_i a p
    obtain ⟨x, hx, rfl⟩ := map_some h
    obtain ⟨h1, h2⟩ := ok S X z W xo a x hx
    refine ⟨be_cast (be_not h1) fun s m => by simp only [den] <;> rfl, fun j hj => ?_⟩
    obtain ⟨i, hi⟩ := okT_not hj
    exact bt_cast (bt_not (h2 i hi)) fun s m => by simp only [den] <;> rfl
  · -- and, or
    rename_i op vs p
    obtain ⟨h1, h2⟩ := cBo_ok (pos := p) ok xo h
    refine ⟨h1, fun j hj => ?_⟩
    obtain ⟨i, hi⟩ := okT_and hj
    exact PW.pt (h2 i hi)
  · -- a if c else b
    rename_i c a b p
    split at h
    · rename_i hc
      split at h
      · rename_i x y w hx hy hw
        obtain rfl := Option.some.inj h
        refine ⟨be_cast (be_ite ((ok S X z W xo c x hx).2 20 hc) (ok S X z W xo a y hy).1 (ok S X z W xo b w hw).1) fun s m => by simp only [den] <;> rfl, fun j hj => (okT_ite hj).elim⟩
      · cases h
    · cases h
  · -- a comparison
    rename_i a o b p
    split at h
    · cases h
    · rename_i hs
      have hs := set_ne (Bool.not_eq_true _ ▸ hs)
      split at h
      · rename_i x y hx hy
        obtain rfl := Option.some.inj h
        have h1 := (ok S X z W xo a x hx).1
        have h2 := (ok S X z W xo b y hy).1
        exact ⟨be_cast (be_cmp xo.un hs h1 h2) fun s m => by simp only [den] <;> rfl, fun j hj => bt_cast (bt_cmp xo.un hs h1 h2) fun s m => by simp only [den] <;> rfl⟩
      · cases h
  · -- two
    rename_i a o q b c p
    split at h
    · cases h
    · rename_i hs
      have hs := set_ne (Bool.not_eq_true _ ▸ hs)
      split at h
      · rename_i x y w hx hy hw
        obtain rfl := Option.some.inj h
        have h1 := (ok S X z W xo a x hx).1
        have h2 := (ok S X z W xo b y hy).1
        have h3 := (ok S X z W xo c w hw).1
        exact ⟨be_cast (be_chn xo.un (fun o1 o2 _ _ _ ha hb hc => pe_chain o1 o2 ha hb hc (lastMarks_of hs)) h1 h2 h3) fun s m => by simp only [den] <;> rfl, fun j hj => bt_cast (bt_chn xo.un hs h1 h2 h3) fun s m => by simp only [den] <;> rfl⟩
      · cases h
  · -- three
    rename_i a o q r b c d p
    split at h
    · cases h
    · rename_i hs
      have hs := set_ne (Bool.not_eq_true _ ▸ hs)
      split at h
      · rename_i x y w u hx hy hw hu
        obtain rfl := Option.some.inj h
        have h1 := (ok S X z W xo a x hx).1
        have h2 := (ok S X z W xo b y hy).1
        have h3 := (ok S X z W xo c w hw).1
        have h4 := (ok S X z W xo d u hu).1
        exact ⟨be_cast (be_chn3 xo.un hs h1 h2 h3 h4) fun s m => by simp only [den] <;> rfl, fun j hj => bt_cast (bt_chn3 xo.un hs h1 h2 h3 h4) fun s m => by simp only [den] <;> rfl⟩
      · cases h
  · -- a dict
    rename_i keys vals p
    split at h
    · rename_i c
      split at h
      · rename_i c2
        obtain rfl := Option.some.inj h
        have e1 : keys = [] := by simpa using c
        have e2 : vals = [] := by simpa using c2
        subst e1 e2
        exact val be_dnew0 (by intro _; rfl)
      · cases h
    · rename_i c
      split at h
      · rename_i c2
        obtain ⟨l, hl, rfl⟩ := map_some h
        obtain ⟨es, i1, i2, i3⟩ := cDict_ok (pos := p) ok xo hl
        exact val (be_dnew i1 i2 i3 (by simpa using c) c2) (by intro _; rfl)
      · cases h
  · -- a list turned about
    rename_i a i0 p1 p2 p3 p
    obtain ⟨x, hx, rfl⟩ := map_some h
    exact val (be_cast (be_rev (ok S X z W xo a x hx).1) fun s m => by simp only [den] <;> rfl) (by intro _; rfl)
  · -- a slice with a step
    rename_i a k p2 p hne
    split at h
    · rename_i x y hx hy
      obtain rfl := Option.some.inj h
      exact val (be_cast (be_stp (ok S X z W xo a x hx).1 (ok S X z W xo k y hy).1) fun s m => by simp only [den] <;> rfl) (by intro _; rfl)
    · cases h
  · -- a slice
    rename_i a lo hi p2 p
    split at h
    · rename_i x l w hx hl hw
      obtain rfl := Option.some.inj h
      exact val (be_cast (be_slc (ok S X z W xo a x hx).1 (cO_ok ok xo hl) (cO_ok ok xo hw)) fun s m => by simp only [den] <;> rfl) (by intro _; rfl)
    · cases h
  · -- an item
    rename_i a b p hns hns2 hns3
    split at h
    · cases h
    · rename_i hs
      have hs := slc_ne (Bool.not_eq_true _ ▸ hs)
      split at h
      · rename_i x y hx hy
        obtain rfl := Option.some.inj h
        exact val (be_cast (be_idx (by have := xo.un; omega) (plainIx_of hs) (ok S X z W xo a x hx).1 (ok S X z W xo b y hy).1) fun s m => by simp only [den] <;> rfl) (by intro _; rfl)
      · cases h
  · -- a field
    rename_i o f p
    split at h
    · cases h
    · rename_i hc
      split at h
      · rename_i i hi
        obtain ⟨cs, h2, rfl⟩ := map_some h
        exact val (be_xfl xo hi h2) (by intro _; rfl)
      · split at h
        · rename_i fs x hf hx
          obtain rfl := Option.some.inj h
          obtain ⟨k, gk, _⟩ := xo.gk
          have F := gk.flds _ (lookup_mem hf)
          exact val (be_cast (be_fld (fs := fs) F (base_of (Bool.not_eq_true _ ▸ hc)) (ok S X z W xo o x hx).1) fun s m => by simp only [den] <;> rfl) (by intro _; rfl)
        · cases h
  · -- sorted(set(xs))
    rename_i x p y p2 a q2 pos
    split at h
    · rename_i hx
      obtain ⟨rfl, rfl⟩ := hx
      split at h
      · rename_i c
        obtain ⟨c1, c⟩ := ba' c
        obtain ⟨c2, c⟩ := ba' c
        obtain ⟨c3, c⟩ := ba' c
        obtain ⟨c4, c⟩ := ba' c
        obtain ⟨c5, c6⟩ := ba' c
        obtain ⟨ma, hma, rfl⟩ := map_some h
        exact val (be_cast (be_sset (calm_of xo c1) (gl_of xo.sc c2) (bis_none xo c4) (gl_of xo.sc c3) (bis_none xo c5) (star_ne (by simpa using c6)) (ok S X z W xo a ma hma).1) fun s m => by simp only [den] <;> rfl) (by intro _; rfl)
      · cases h
    · exact val (cCall_ok ok xo h) (by intro _; rfl)
  · exact val (cCall_ok ok xo h) (by intro _; rfl)
  · -- max(xs, default=None)
    rename_i x p a d j p2 p3 pos
    split at h
    · rename_i hx
      obtain ⟨rfl, rfl⟩ := hx
      split at h
      · rename_i c
        rw [Bool.and_eq_true, Bool.and_eq_true, Bool.and_eq_true] at c
        obtain ⟨⟨⟨c1, c2⟩, c3⟩, c4⟩ := c
        obtain ⟨ma, hma, rfl⟩ := map_some h
        exact val (be_cast (be_mxd xo.un (calm_of xo c1) (gl_of xo.sc c2) (bis_none xo c3) (star_ne (by simpa using c4)) (ok S X z W xo a ma hma).1) fun s m => by simp only [den] <;> rfl) (by intro _; rfl)
      · cases h
    · cases h
  · split at h
    · exact val (cVcall_ok ok xo h) (by intro _; rfl)
    · split at h
      · rename_i fs d hd
        exact val (cMethD_ok ok xo hd h) (by intro _; rfl)
      · exact val (cMeth_ok ok xo h) (by intro _; rfl)
  · exact val (be_cast (be_comp ok xo false h) fun s m => rfl) (by intro _; rfl)
  · split at h
    · rename_i hh x q hx
      split at h
      · rename_i hl
        obtain rfl := Option.some.inj h
        exact val (be_lam hl (xo.lm _ _ _ hx)) (by intro _; rfl)
      · cases h
    · cases h
  · cases h
theorem cE_ok : ∀ n, RecOk G tab (cE G n)
  | 0 => fun S X z W xo e m h => nomatch h
  | n + 1 => cStep_ok (cE_ok n)
end
end BV
/-! the checker is right: statements -/
namespace BV
open PySem PySem.Spec L2
section
variable {X : Cx} {tab : List (Str × List Str)} {z : Option Xz} {W : WX}
theorem bs_cast {st : Stmt} {f f' : Sl → Sto → RS} (h : BS X tab z W st f) (q : ∀ s m, f' s m = f s m) : BS X tab z W st f' := by
  have : f' = f := funext fun s => funext fun m => q s m
  rw [this]
  exact h
/-- a slice of a list is a new one -/
theorem be_slcM {a : Expr} {lo hi : Option Expr} {fa : Sl → Sto → Rs T} {fl fh : Sl → Sto → Rs (Option Int)} {pos p2 : Pos} (ha : BE X tab z W a fa) (hl : BO X tab z W lo fl) (hh : BO X tab z W hi fh) :
    BE X tab z W (.Subscript a (.Slice lo hi none p2) pos) (fun e m => mq true ((fa e m).bind fun x m1 => (fl e m1).bind fun l m2 => (fh e m2).bind fun h m3 => slcT x l h m3)) := by
  refine pe_w (pe_slice sl_z ha hl hh) fun σ H Q ⟨g, e, m, rl, so, p⟩ => ?_
  dsimp only at p
  rw [mq_bind] at p
  refine lift_go rl so p fun g1 H1 x m1 v r1 so1 s1 hv p1 => ?_
  rw [mq_bind] at p1
  refine liftO_go r1 so1 p1 fun g2 H2 y m2 r2 so2 s2 p2 => ?_
  rw [mq_bind] at p2
  refine liftO_go r2 so2 p2 fun g3 H3 w m3 r3 so3 s3 p3 => ?_
  have hv := rep_mono (s2.trans s3) x v hv
  unfold slcT at p3
  split at p3
  · exact p3.elim
  · rename_i xs
    obtain ⟨a, rfl, ha, l⟩ := hv
    refine .inl ⟨a, _, rfl, ha.sq, fun q hq => ?_⟩
    rw [cutV_ints]
    exact PoT.lstM (b := true) r3 hq p3 (by rw [List.length_map]; exact Nat.le_trans (cutT_len _ y w) l) (reps_ints _)
  · exact p3.elim
  · split at p3
    · rename_i xs e
      obtain ⟨a, vs, rfl, k, r, l⟩ := lstOf_rep r3 e hv
      exact .inl ⟨a, vs, rfl, SqL.of k, fun q hq => PoT.lstM (b := true) r3 hq p3 (Nat.le_trans (cutT_len _ y w) l) (cut_reps y w r)⟩
    · exact p3.elim
/-- two lists, joined, are a new one -/
theorem add_listsM {S : Sg} {g : Gh} {m : Sto} {H : Hp} {Q : VK} {E : Value → Option Addr → Hp → Prop} (rl : Rel S g m H) {x y : T} {v u : V} (hx : rep S g H x v) (hy : rep S g H y u) (p : PoT S g H Q E (mq true (addT x y m))) : rAddA S.K v u H Q := by
  have key : ∀ xs ys, lstOf m x = some xs → lstOf m y = some ys → PoT S g H Q E (mq true (if xs.length + ys.length ≤ 16777216 then .ok (.lst (xs ++ ys)) m else .bad)) → rAddA S.K v u H Q := fun xs ys e1 e2 p => by
    obtain ⟨a, vs, rfl, h1, h2, h3⟩ := lstOf_rep rl e1 hx
    obtain ⟨b, us, rfl, k1, k2, k3⟩ := lstOf_rep rl e2 hy
    by_cases c : xs.length + ys.length ≤ 16777216
    · rw [if_pos c] at p
      refine .inr (.inr (.inl ⟨a, b, vs, us, rfl, rfl, h1, k1, by rw [sizeL, reps_len h2, reps_len k2]; exact c, fun q hq => ?_⟩))
      exact PoT.lstM (b := true) rl hq p (by rw [List.length_append]; exact c) (reps_app h2 k2)
    · rw [if_neg c] at p
      exact p.elim
  unfold addT at p
  split at p
  · exact p.elim
  · split at p
    · exact p.elim
    · exact p.elim
  · split at p
    · exact p.elim
    · exact p.elim
  · split at p
    · rename_i xs ys e1 e2
      exact key xs ys e1 e2 p
    · exact p.elim
theorem be_addM {a b : Expr} {fa fb : Sl → Sto → Rs T} {pos : Pos} (ha : BE X tab z W a fa) (hb : BE X tab z W b fb) :
    BE X tab z W (.BinOp a .Add b pos) (fun e m => mq true ((fa e m).bind fun x m1 => (fb e m1).bind fun y m2 => binT .Add x y m2)) := by
  refine pe_w (pe_op op_addA ha hb) fun σ H Q ⟨g, e, m, rl, so, p⟩ => ?_
  dsimp only at p
  rw [mq_bind] at p
  refine lift_go rl so p fun g1 H1 x m1 v r1 so1 s1 hv p1 => ?_
  rw [mq_bind] at p1
  refine lift_go r1 so1 p1 fun g2 H2 y m2 u r2 so2 s2 hu p2 => ?_
  exact add_listsM (S := sg X tab) r2 (rep_mono s2 x v hv) hu p2
/-- list(xs) is a new one -/
theorem be_listM {p pos : Pos} {a : Expr} {es : List Expr} {f : Sl → Sto → Rs (List T)} (hg : Gl X (Str.ofString "list")) (hm : X.mg (Str.ofString "list") = none) (hs : ∀ x p, a ≠ .Starred x p)
    (hpl : (backTo pos (starEach es X.env)).any (·.1) = false) (h : BA X tab z W (a :: es) f) :
    BE X tab z W (.Call (.Name (Str.ofString "list") p) (a :: es) [] pos) (fun e m => mq true ((f e m).bind fun ts m' => biT .list ts m')) := by
  refine pe_w (pe_callTy call_list_of hg hm (by decide +kernel) h (by decide +kernel) (by decide +kernel) (star_of hs) hpl) fun σ H Q ⟨g, e, m, rl, so, q⟩ => ?_
  dsimp only at q
  rw [mq_bind] at q
  refine liftA_eq rl so q fun g1 H1 x m1 v eq r1 so1 s1 hv p1 => ?_
  match x, hv, p1 with
  | [t], hv, p1 =>
    obtain ⟨w, rfl, hw⟩ := reps1 hv
    dsimp only [biT] at p1
    split at p1
    · rename_i xs e
      obtain ⟨a, vs, rfl, k, r, l⟩ := seqOf_rep r1 e hw
      exact ⟨a, vs, rfl, k, fun q hq => PoT.lstM (b := true) r1 hq p1 l r⟩
    · exact p1.elim
  | [], hv, p1 => exact p1.elim
  | _ :: _ :: _, hv, p1 => exact p1.elim
end
/-- a frame in which statements run -/
structure XSt (X : Cx) : Prop where
  ps : PassesOwn (model X.prog X.w) X.A X.env X.xe
  stk : X.stack = X.env :: X.outer
  frm : X.env.frame = some X.env.locals
  kd : X.env.scope.kind = .function
  fn : ∀ x, X.fn x = true
section
variable {G : Ctx} {tab : List (Str × List Str)} {S : Sc} {X : Cx} {z : Option Xz} {W : WX}
theorem cE_step {n : Nat} {S : Sc} {e : Expr} {m : ME} (h : cE G n S e = some m) : ∃ k, n = k + 1 ∧ cStep G (cE G k) S e = some m := by
  cases n with
  | zero => cases h
  | succ k => exact ⟨k, rfl, h⟩
theorem cMu_ok {n : Nat} (xo : XOk G tab S X z W) {mu : Bool} {e : Expr} {m : ME} (h : cMu G n S mu e = some m) : BE X tab z W e (den m) := by
  unfold cMu at h
  split at h
  · rename_i c0
    rw [Bool.and_eq_true] at c0
    split at h
    · rename_i c
      rw [Bool.and_eq_true] at c
      obtain ⟨l, hl, rfl⟩ := map_some h
      have ok := cE_ok (G := G) (tab := tab) n
      have c1 := c0.2
      unfold isLst at c1
      split at c1
      · rename_i x1 p a es pos
        have e1 : x1 = Str.ofString "list" := of_decide_eq_true c1
        subst e1
        have hl : cL (cE G n S) (a :: es) = some l := hl
        obtain ⟨hst, hlen⟩ := cL_star hl
        exact be_cast (be_listM (gl_of xo.sc c.1) (bis_none xo c.2) (star_ne (hst a List.mem_cons_self)) (plain_star fun b hb => hst b (List.mem_cons_of_mem _ hb)) (cL_ok ok xo hl)) fun s m => by simp only [den, mq, if_true]
      · cases c1
    · cases h
  split at h
  · rename_i x hx
    obtain rfl := Option.some.inj h
    have h0 := (cE_ok (tab := tab) n S X z W xo e x hx).1
    split
    · rename_i c
      rw [Bool.and_eq_true] at c
      obtain ⟨k, rfl, hk⟩ := cE_step hx
      have ok := cE_ok (G := G) (tab := tab) k
      have neg : ∀ {a : Expr}, isStar a ≠ true → ∀ x p, a ≠ .Starred x p := fun h => star_ne (Bool.not_eq_true _ ▸ h)
      cases e with
      | List es p =>
        unfold cStep at hk
        dsimp only at hk
        split at hk
        · rename_i l hl
          split at hk
          · rename_i c
            obtain rfl := Option.some.inj hk
            exact be_cast (be_lst true c (cL_ok ok xo hl)) fun s m => by simp only [den, mq, if_true]
          · cases hk
        · cases hk
      | ListComp elt gs scope p =>
        have hk : cComp G (cE G k) S elt gs scope = some x := hk
        exact be_cast (be_comp ok xo true hk) fun s m => by simp only [den, mq, if_true]
      | Subscript a i p =>
        cases i with
        | Slice lo hi st p2 =>
          cases st with
          | none =>
            have hk2 : (match cE G k S a, cO (cE G k S) lo, cO (cE G k S) hi with
              | some x, some l, some h => some (ME.slc x l h)
              | _, _, _ => none) = some x := by cases lo <;> cases hi <;> exact hk
            split at hk2
            · rename_i x1 l w hx1 hl hw
              obtain rfl := Option.some.inj hk2
              exact be_cast (be_slcM (ok S X z W xo a x1 hx1).1 (cO_ok ok xo hl) (cO_ok ok xo hw)) fun s m => by simp only [den, mq, if_true]
            · cases hk2
          | some _ => cases c.2
        | _ => cases c.2
      | BinOp a o b p =>
        cases o with
        | Add =>
          have hk2 : (match cE G k S a, cE G k S b with
            | some x, some y => some (ME.bin .Add x y)
            | _, _ => none) = some x := hk
          split at hk2
          · rename_i x1 y1 hx1 hy1
            obtain rfl := Option.some.inj hk2
            exact be_cast (be_addM (ok S X z W xo a x1 hx1).1 (ok S X z W xo b y1 hy1).1) fun s m => by simp only [den, mq, if_true]
          · cases hk2
        | _ => cases c.2
      | _ => cases c.2
    · exact h0
  · cases h
theorem cLB_ok {f : Expr → Option ME} (ok : ∀ e x, f e = some x → BE X tab z W e (den x)) : ∀ {es : List Expr} {l : List ME}, cL f es = some l → BA X tab z W es (denL l)
  | [], l, h => by
    obtain rfl := Option.some.inj h
    exact ba_nil
  | a :: r, l, h => by
    unfold cL at h
    split at h
    · cases h
    · rename_i hs
      split at h
      · rename_i x l' h1 h2
        obtain rfl := Option.some.inj h
        exact ba_cons (star_ne (Bool.not_eq_true _ ▸ hs)) (ok a x h1) (cLB_ok ok h2)
      · cases h
theorem cMd_ok {n : Nat} (xo : XOk G tab S X z W) {dp mu : Bool} {e : Expr} {m : ME} (h : cMd G n S dp mu e = some m) : BE X tab z W e (den m) := by
  unfold cMd at h
  split at h
  · split at h
    · split at h
      · rename_i l hl
        split at h
        · rename_i c
          obtain rfl := Option.some.inj h
          exact be_cast (be_lst false c (cLB_ok (fun e x hx => cMu_ok xo hx) hl)) fun s m => rfl
        · cases h
      · cases h
    · exact cMu_ok xo h
  · exact cMu_ok xo h
end
end BV
/-! the checker is right: all statements -/
namespace BV
open PySem PySem.Spec L2
section
variable {G : Ctx} {tab : List (Str × List Str)} {S : Sc} {X : Cx} {z : Option Xz} {W : WX}
theorem lmOf_eq {m : Str} {k : LM} (h : lmOf m = some k) : m = Str.ofString (match k with | .app => "append" | .ext => "extend" | .clr => "clear") := by
  unfold lmOf at h
  repeat' (split at h)
  all_goals first | cases h; assumption | (obtain rfl := Option.some.inj h; assumption) | cases h
theorem cLm_ok {n : Nat} (xo : XOk G tab S X z W) {e : Expr} {st : MS} {pos' : Pos} (h : cLm G n S e = some st) : BS X tab z W (.Expr e pos') (denS st) := by
  unfold cLm at h
  split at h
  · rename_i o m apos args pos
    split at h
    · rename_i k hk hm
      split at h
      · cases h
      · rename_i c
        rw [Bool.or_eq_true, not_or, Bool.or_eq_true, not_or, decide_eq_true_eq] at c
        obtain ⟨⟨c1, c2⟩, c4⟩ := c
        have c1 : isCall o = false := Bool.not_eq_true _ ▸ c1
        have c2 : (apos.endLine == pos.line) = true := by simpa using c2
        split at h
        · rename_i x l hx hl
          split at h
          · cases h
          · rename_i c5
            obtain rfl := Option.some.inj h
            have ok := cE_ok (G := G) (tab := tab) n
            have ho := (ok S X z W xo o x hx).1
            obtain ⟨hst, hlen⟩ := cL_star hl
            have e1 := lmOf_eq hk
            cases args with
            | nil =>
              obtain rfl : [] = l := Option.some.inj hl
              cases k with
              | clr =>
                dsimp only at e1
                subst e1
                refine bs_cast (bs_lm0 (k := .clr) (ps_expr (pe_bm0 PySem.F.plainAttrs_list PySem.F.slot_list_clear PySem.F.type_list_clear mt_clear ho (base_of c1) c2) rfl)) fun s m => by simp only [denS, lmD, denL] <;> rfl
              | app => exact absurd rfl c5
              | ext => exact absurd rfl c5
            | cons a es =>
              have ha := cL_ok ok xo hl
              have hfew := few_of (env := X.env) (pos := pos) hst (by omega)
              have s1 := star_ne (hst a List.mem_cons_self)
              have s2 := plain_star (pos := pos) (env := X.env) fun b hb => hst b (List.mem_cons_of_mem _ hb)
              cases k with
              | app =>
                dsimp only at e1
                subst e1
                refine bs_cast (bs_lm (k := .app) (ps_expr (pe_bm PySem.F.plainAttrs_list PySem.F.slot_list_append PySem.F.type_list_append mt_append ho ha (base_of c1) hfew c2 (star_of s1) s2) rfl)) fun s m => by simp only [denS, lmD] <;> rfl
              | ext =>
                dsimp only at e1
                subst e1
                refine bs_cast (bs_lm (k := .ext) (ps_expr (pe_bm PySem.F.plainAttrs_list PySem.F.slot_list_extend PySem.F.type_list_extend mt_extend ho ha (base_of c1) hfew c2 (star_of s1) s2) rfl)) fun s m => by simp only [denS, lmD] <;> rfl
              | clr =>
                dsimp only at e1
                subst e1
                refine bs_cast (bs_lm (k := .clr) (ps_expr (pe_bm PySem.F.plainAttrs_list PySem.F.slot_list_clear PySem.F.type_list_clear mt_clear ho ha (base_of c1) hfew c2 (star_of s1) s2) rfl)) fun s m => by simp only [denS, lmD] <;> rfl
        · cases h
    · cases h
  · cases h
theorem sw_none {a : Expr} {t : Option Expr} {l : Nat} {env : Env} (h : isCmp a = false) : swapsWith a t l env = pure false := by
  cases a <;> first | rfl | cases h
theorem sole_none {tg a : Expr} {l : Nat} {env : Env} (h : isCmp a = false) : swapsWithSole [tg] a l env = pure false := sw_none h
theorem sole_tup {es : List Expr} {k : _} {p : Pos} {a : Expr} {l : Nat} {env : Env} : swapsWithSole [.Tuple es k p] a l env = pure false := by cases a <;> rfl
theorem stores_none {tg a : Expr} {env : Env} (h : isTup a = false ∨ isTup tg = false ∧ ∀ l p, tg ≠ .List l p) : swappedStores [tg] a env = pure none := by
  rcases h with h | ⟨h, h2⟩
  · cases tg <;> cases a <;> first | rfl | cases h
  · cases tg <;> first | rfl | exact absurd rfl (h2 _ _) | cases h
theorem zne (xo : XOk G tab S X z W) {i : Nat} (h : S.hot ≠ some i) : ∀ x, z = some x → x.i ≠ i := fun x hx e => h (by rw [← e]; exact xo.hot hx)
theorem loc_all (xo : XOk G tab S X z W) (hf : ∀ x, locB S.sc x = true → X.fn x = true ∨ X.env.scope.names.lookup x = some .local) : ∀ x, locB S.sc x = true → L2.Loc X.env.scope x ∧ (X.fn x = true ∨ X.env.scope.names.lookup x = some .local) := fun x hx => ⟨by rw [xo.sc]; exact loc_of hx, hf x hx⟩
theorem bs_never {st : Stmt} : BS X tab z W st (denS .never) := by
  refine ⟨fun pins s σ H D I h => ?_⟩
  obtain ⟨g, e, m, rl, so, p⟩ := h
  simp only [denS] at p
  exact p.elim
theorem cAsg_ok {n : Nat} (xo : XOk G tab S X z W) (xs : XSt X) {tg a : Expr} {pos : Pos} {st : MS} (h : cAsg G n S tg a pos = some st) : BS X tab z W (.Assign [tg] a pos) (denS st) := by
  have ok := cE_ok (G := G) (tab := tab) n
  have hf : ∀ x, locB S.sc x = true → X.fn x = true ∨ X.env.scope.names.lookup x = some .local := fun x _ => .inl (xs.fn x)
  unfold cAsg at h
  split at h
  · -- a name
    rename_i x py
    split at h
    · rename_i i xs' l htg
      obtain ⟨g1, g2, g3, g4⟩ := tgC_ok (X := X) (S := S) xo.N xo.nd (.inr rfl) htg (loc_all xo hf)
      have hi : X.N[i]? = some x ∧ L2.Loc X.env.scope x ∧ (X.fn x = true ∨ X.env.scope.names.lookup x = some .local) ∧ S.hot ≠ some i := by
        unfold tgC at htg
        dsimp only at htg
        split at htg
        · rename_i hx
          split at htg
          · rename_i j hj
            split at htg
            · cases htg
            · rename_i hh
              obtain ⟨e1, e2⟩ := Prod.mk.inj (Option.some.inj htg)
              cases e1
              exact ⟨by rw [xo.N]; exact ixOf_0 hj, (loc_all xo hf x hx).1, (loc_all xo hf x hx).2, hh⟩
          · cases htg
        · cases htg
      obtain ⟨i1, i2, i3, i4⟩ := hi
      split at h
      · rename_i m hm
        have hb := cMd_ok xo hm
        split at h
        · rename_i elt gs scope p
          split at h
          · rename_i c
            rw [Bool.and_eq_true, Bool.and_eq_true] at c
            obtain ⟨⟨c1, c2⟩, c3⟩ := c
            obtain rfl := Option.some.inj h
            have hl : X.env.scope.names.lookup x = some .local := by rw [xo.sc]; exact lc_of c1
            have kind : X.env.scope.kind = .function := by
              exact xs.kd
            unfold cMd cMu at hm
            dsimp only at hm
            rw [if_neg (by simp [isLst])] at hm
            split at hm
            · rename_i x0 hx0
              obtain ⟨k, rfl, hk⟩ := cE_step hx0
              have hk : cComp G (cE G k) S elt gs scope = some x0 := hk
              have e1 := Option.some.inj hm
              have sw := sw_true (elt := elt) (gs := gs) (scope := scope) (pos := p) (py := py) (y := x) (l := pos.line) (env := X.env) kind hl c2 (by simpa using c3)
              refine bs_cast (bs_setLc (cE_ok k) xo (G.muts.contains x && isDisp (.ListComp elt gs scope p)) i1 hl sw (zne xo i4) hk) fun s m => ?_
              rw [← e1]
              simp only [denS]
              split <;> rename_i q <;> simp only [q, mq, den, if_true, Bool.false_eq_true, if_false]
            · cases hm
          · cases h
        · rename_i na
          split at h
          · cases h
          · rename_i hc
            obtain rfl := Option.some.inj h
            exact bs_cast (bs_set (ps_set xo.nd i1 i2 hb (sw_none (Bool.not_eq_true _ ▸ hc)) i3) (zne xo i4)) fun s m => by simp only [denS]
      · cases h
    · cases h
  · -- a tuple
    rename_i es k p
    split at h
    · split at h
      · rename_i o f p1 q hh p2 _
        split at h
        · obtain rfl := Option.some.inj h
          exact bs_never
        · rename_i hc
          rw [Bool.or_eq_true, not_or, Bool.or_eq_true, not_or, Bool.or_eq_true, not_or, Bool.or_eq_true, not_or] at hc
          obtain ⟨⟨⟨⟨c1, c2⟩, c3⟩, c4⟩, c5⟩ := hc
          have c3 : S.calm = true := by simpa using c3
          split at h
          · rename_i fs gs x y m hfs hgs hx hy hm
            obtain rfl := Option.some.inj h
            obtain ⟨k, gk, _⟩ := xo.gk
            exact bs_cast (bs_fset2 (calm_of xo c3) (gk.flds _ (lookup_mem hfs)) (gk.flds _ (lookup_mem hgs)) (sole_none (Bool.not_eq_true _ ▸ c2)) (stores_none (.inl (Bool.not_eq_true _ ▸ c1))) (ok S X z W xo o x hx).1 (ok S X z W xo q y hy).1 (ok S X z W xo a m hm).1) fun s m => by simp only [denS] <;> rfl
          · obtain rfl := Option.some.inj h
            exact bs_never
      · obtain rfl := Option.some.inj h
        exact bs_never
    split at h
    · cases h
    · rename_i hc
      rw [Bool.or_eq_true, not_or] at hc
      obtain ⟨c1, c3⟩ := hc
      have c3 : S.calm = true := by simpa using c3
      split at h
      · rename_i l0 xs' l m htg hm
        obtain rfl := Option.some.inj h
        obtain ⟨g1, g2, g3, g4⟩ := tgC_ok (X := X) (S := S) xo.N xo.nd (.inl (calm_of xo c3)) htg (loc_all xo hf)
        have el : l0 = l := by
          rcases g4 with e | ⟨i, e, _⟩
          · cases e; rfl
          · cases e
        subst el
        exact bs_cast (bs_bnd (ps_asg (ok S X z W xo a m hm).1 g1 sole_tup (stores_none (.inl (Bool.not_eq_true _ ▸ c1))) rfl) fun i hi => zne xo (g2 i hi)) fun s m => by simp only [denS] <;> rfl
      · cases h
  · -- an item
    rename_i o k p
    split at h
    · cases h
    · rename_i hc
      rw [Bool.or_eq_true, not_or] at hc
      obtain ⟨c1, c2⟩ := hc
      split at h
      · rename_i x y m hx hy hm
        obtain rfl := Option.some.inj h
        have hs := slc_ne (Bool.not_eq_true _ ▸ c1)
        refine bs_cast (bs_sub (ps_asg (ok S X z W xo a m hm).1 (pg_sub (ok S X z W xo o x hx).1 (ok S X z W xo k y hy).1 (set_or set_list (set_dic (by have := xo.un; omega))) fun v => ?_) (sole_none (Bool.not_eq_true _ ▸ c2)) (stores_none (.inr ⟨rfl, fun _ _ z => nomatch z⟩)) rfl)) fun s m => by simp only [denS] <;> rfl
        cases k <;> first | rfl | exact absurd rfl (hs _ _ _ _)
      · cases h
  · -- a field
    rename_i o f p
    split at h
    · cases h
    · rename_i hc
      rw [Bool.or_eq_true, not_or] at hc
      obtain ⟨c1, c2⟩ := hc
      split at h
      · rename_i fs x m hfs hx hm
        obtain rfl := Option.some.inj h
        obtain ⟨k, gk, _⟩ := xo.gk
        have F := gk.flds _ (lookup_mem hfs)
        exact bs_cast (bs_fset (fs := fs) F (sw_none (Bool.not_eq_true _ ▸ c2)) (ok S X z W xo o x hx).1 (cMu_ok xo hm)) fun s m => by simp only [denS] <;> rfl
      · cases h
  · cases h
end
end BV
/-! several except clauses, each with a name or none -/
namespace BV
open PySem PySem.Spec L2 PyProof.Rows
abbrev HdT := Value × Option Nat × (Addr → Value → Option Addr → TS)
/-- what a suite's ends are -/
def dAs (D : Ends) (i : Nat) : Ends := { nx := fun σ' H' => D.nx (σ'.set i none) H', rt := D.rt, bk := fun σ' H' => D.bk (σ'.set i none) H', ct := fun σ' H' => D.ct (σ'.set i none) H' }
/-- what the clauses wish of an exception of the body, one after the other -/
def wHds (K : PySem.W.Frag) (Wout : WX) (D : Ends) : List HdT → WX
  | [] => Wout
  | (c, none, ts) :: r => fun cls d σ H => ∃ b, PySem.W.exmOne K cls c = some b ∧ (b = true → ∀ a, H a = none → ts a cls d D σ H) ∧ (b = false → wHds K Wout D r cls d σ H)
  | (c, some i, ts) :: r => fun cls d σ H => ∃ b, PySem.W.exmOne K cls c = some b ∧ (b = true → ∀ a, H a = none → ts a cls d (dAs D i) (σ.set i (some (.ref a))) H) ∧ (b = false → wHds K Wout D r cls d σ H)
inductive HdsAs (X : Cx) : List ExceptHandler → List HdT → Prop
  | nil : HdsAs X [] []
  | only {x : Str} {c : Value} {ts : Addr → Value → Option Addr → TS} {b₀ : Stmt} {suite : List Stmt} {np pos' : Pos} {hds : List ExceptHandler} {l : List HdT} (hc : Names X x c)
      (hsu : ∀ (a : Addr) (oe : Obj) (cls : Value) (d : Option Addr) (pn : List (Addr × Obj)), Zc cls d oe → (∃ vs, oe.data = .fields vs) → PSs (X.suite a ((a, oe) :: pn)) (b₀ :: suite) (ts a cls d)) (r : HdsAs X hds l) :
      HdsAs X (.ExceptHandler (some (.Name x np)) none (b₀ :: suite) pos' :: hds) ((c, none, ts) :: l)
  | named {x n : Str} {i : Nat} {c : Value} {ts : Addr → Value → Option Addr → TS} {b₀ : Stmt} {suite : List Stmt} {np pos' : Pos} {hds : List ExceptHandler} {l : List HdT} (hc : Names X x c) (hi : X.N[i]? = some n) (hln : X.env.kindOf n = some .local)
      (hsu : ∀ (a : Addr) (oe : Obj) (cls : Value) (d : Option Addr) (pn : List (Addr × Obj)), Zc cls d oe → (∃ vs, oe.data = .fields vs) → PSs (X.suite a ((a, oe) :: pn)) (b₀ :: suite) (ts a cls d)) (r : HdsAs X hds l) :
      HdsAs X (.ExceptHandler (some (.Name x np)) (some n) (b₀ :: suite) pos' :: hds) ((c, some i, ts) :: l)
section
variable {X : Cx} {body : List Stmt} {h₀ : ExceptHandler} {hds : List ExceptHandler} {l : List HdT} {pos : Pos} {tb : WX → TS} {Wout : WX}
theorem ps_try_hds (hs : X.stack = X.env :: X.outer) (hf : X.env.frame = some X.env.locals) (hN : X.N.Nodup) (tk : Takes X Wout)
    (hb : ∀ (W : WX) (pn : List (Addr × Obj)) (xe : Value → Shared → Prop), Takes (X.tr pn xe) W → PassesOwn (model X.prog X.w) X.A X.env xe → PSs (X.tr pn xe) body (tb W))
    (hh : HdsAs X (h₀ :: hds) l) : PS X (.Try body (h₀ :: hds) [] [] pos) (fun D σ H => tb (wHds X.K Wout D l) D σ H) := by
  refine ⟨fun pins s σ H D I h => ?_⟩
  have ok := I.ok
  have hfr : X.A.frames = some (X.env :: X.outer) := by rw [ok.frames, hs]
  refine wpAny_Try_except ?_
  refine wpAny_mono ((hb (wHds X.K Wout D l) (X.pn ++ pins) (fun e s₁ => wpAny (model X.prog X.w) X.A (noteFrame e X.env) (fun _ s₂ => wpAny (model X.prog X.w) X.A (setFlight e none) (fun _ s₃ =>
    wpAny (model X.prog X.w) X.A (handleBy e X.env (h₀ :: hds)) (SP X pins D) X.xe s₃) X.xe s₂) X.xe s₁) (fun u s' xx => ?_) PassesOwn.looking).run [] s σ H D (I.toTry _) h) (fun f s1 hsp => ?_) (fun e s1 he => he)
  · obtain ⟨a, B, sI, pins', σ', H', cls, d, rfl, J', nb, up, sky, na, os, ag, w⟩ := xx
    have J : Inv X pins σ' H' sI := J'.ofTry ok
    have sky' : Sky B (X.env :: X.outer) a (Zc cls d) X.env.locals s'.heap := by rw [← hs]; exact sky
    show wpAny (model X.prog X.w) X.A (noteFrame (.ref a) X.env) _ _ _
    refine Sky.land Zc.steady hfr hf sky' fun h3 fl3 up3 => ?_
    have J3 : Inv X pins σ' H' { s' with heap := h3 } := J.landed nb fl3.1 (up.trans up3) os ag
    obtain ⟨oe3, vs3, he3, hz3, hd3⟩ := fl3.there
    have notFr : ∀ {h : Heap} {o : Obj} {vs : Array Value}, h.FunFrames B (X.env :: X.outer) → h.get? a = some o → o.data = .fields vs → a ∉ frs (X.env :: X.outer) := fun {h o vs} ff e dd hm => by
      obtain ⟨_, o', e', hnf⟩ := ff.mem hm
      rw [e] at e'; cases e'
      exact hnf _ dd
    have nfr := notFr fl3.2.2.1 he3 hd3
    have nL : a ≠ X.env.locals := fun z => nfr (List.mem_filterMap.mpr ⟨X.env, List.mem_cons_self, by rw [hf, z]⟩)
    have nF : a ∉ X.fs := fun hm => by
      obtain ⟨e, he, q⟩ := List.mem_filterMap.mp hm
      exact nfr (List.mem_filterMap.mpr ⟨e, List.mem_cons_of_mem _ he, q⟩)
    have S3 := J3.suite he3 hd3 na nL nF
    have test : ∀ {x : Str} {np : Pos} {c : Value} (hc : Names X x c) {Q : Value → Shared → Prop} {E : Value → Shared → Prop}, Q c { s' with heap := h3 } → wpAny (model X.prog X.w) (X.A.mark (some (.ref a))) (eval (.Name x np) X.env) Q E { s' with heap := h3 } := fun {x np c} hc {Q E} q => by
      obtain ⟨hg, hdbg, hm | ⟨hm, hv, hnn⟩⟩ := hc
      · exact ld_glob (X := X.suite a ((a, oe3) :: (X.pn ++ pins))) S3 hg hm q hdbg
      · exact ld_blt (X := X.suite a ((a, oe3) :: (X.pn ++ pins))) S3 hg hm hv q hnn hdbg
    have go : ∀ {hds' : List ExceptHandler} {l' : List HdT}, HdsAs X hds' l' → wHds X.K Wout D l' cls d σ' H' →
        wpAny (model X.prog X.w) X.A (handleBy (.ref a) X.env hds') (SP X pins D) X.xe { s' with heap := h3 } := by
      intro hds' l' hk
      induction hk with
      | nil =>
        intro w
        refine wpAny_handleBy_nil ?_
        obtain ⟨k1, k2, k3, oe, vs, T, oT, ts', he, hz, hd, h1, hr⟩ := id fl3
        unfold PySem.passOn
        refine wpAny_bind (wpAny_field he hd h1 ?_)
        rw [if_neg (show ¬ ((Value.ref T == Value.none) = true) from by simp)]
        have fin : wpAny (model X.prog X.w) X.A (setFlight (.ref a) X.env.frame) (fun _ s4 => wpAny (model X.prog X.w) X.A (throw (.ref a) : Sem Flow) (SP X pins D) X.xe s4) X.xe { s' with heap := h3 } := by
          rw [hf]
          refine HandSPX.setFlight_upZ fl3 fun h4 hh4 up4 => wpAny_throw (tk _ _ ?_)
          exact ⟨a, B, sI, pins, σ', H', cls, d, rfl, J, nb, (up.trans up3).trans up4, .inr (.inr (by rw [hs]; exact hh4)), na, os, ag, w⟩
        first
          | exact wpAny_bind (wpAny_pure (wpAny_bind fin))
          | exact wpAny_bind fin
      | @only x c ts b₀ suite np pos' hds2 l2 hc hsu r ih =>
        intro w
        obtain ⟨b, hb1, hyes, hno⟩ := w
        refine wpAny_handleBy_cons (codeAny_handlers_test ?_) (by intro q; cases q)
        have LT : PySem.W.Looks (model X.prog X.w) h3 (typeOf (.ref a)) cls := fun A Q E s k q => wpAny_typeOf_ref (k _ _ he3) (by rw [hz3.1]; exact q)
        have LM := PySem.W.exm_one (M := model X.prog X.w) (J3.kIn) LT hb1
        refine test hc (LM.here ?_)
        cases b with
        | true =>
          refine codeAny_handlers_suite ?_
          refine HandSPX.lands_againZ fl3 fun h4 fl4 up4 => ?_
          have J4 : Inv X pins σ' H' { s' with heap := h4 } := J.landed nb fl4.1 ((up.trans up3).trans up4) os ag
          obtain ⟨oe4, vs4, he4, hz4, hd4⟩ := fl4.there
          have S4 := J4.suite he4 hd4 na nL nF
          refine wpAny_mono ((hsu a oe4 cls d (X.pn ++ pins) hz4 ⟨_, hd4⟩).run [] _ _ H' _ S4 (hyes rfl a na)) (fun f s6 hsp => ?_) (fun _ _ z => False.elim z)
          cases f with
          | next =>
            obtain ⟨σ6, H6, S6, q6⟩ := hsp
            exact ⟨_, _, S6.unsuite ok, q6⟩
          | brk =>
            obtain ⟨σ6, H6, S6, q6⟩ := hsp
            exact ⟨_, _, S6.unsuite ok, q6⟩
          | cont =>
            obtain ⟨σ6, H6, S6, q6⟩ := hsp
            exact ⟨_, _, S6.unsuite ok, q6⟩
          | ret u =>
            obtain ⟨v6, σ6, H6, S6, r6, q6⟩ := hsp
            exact ⟨_, _, _, S6.unsuite ok, r6, q6⟩
        | false =>
          show wpAny _ X.A (handleBy (.ref a) X.env hds2) _ _ _
          exact ih (hno rfl)
      | @named x n i c ts b₀ suite np pos' hds2 l2 hc hi hln hsu r ih =>
        intro w
        obtain ⟨b, hb1, hyes, hno⟩ := w
        have hloc : Loc X.env.scope n := .inl hln
        refine wpAny_handleBy_cons (codeAny_handlers_test ?_) (by intro q; cases q)
        have LT : PySem.W.Looks (model X.prog X.w) h3 (typeOf (.ref a)) cls := fun A Q E s k q => wpAny_typeOf_ref (k _ _ he3) (by rw [hz3.1]; exact q)
        have LM := PySem.W.exm_one (M := model X.prog X.w) (J3.kIn) LT hb1
        refine test hc (LM.here ?_)
        cases b with
        | true =>
          refine codeAny_handlers_suite_as ?_
          refine HandSPX.lands_againZ fl3 fun h4 fl4 up4 => ?_
          have J4 : Inv X pins σ' H' { s' with heap := h4 } := J.landed nb fl4.1 ((up.trans up3).trans up4) os ag
          obtain ⟨oe4, vs4, he4, hz4, hd4⟩ := fl4.there
          have S4 := J4.suite he4 hd4 na nL nF
          refine store_ok (X := X.suite a ((a, oe4) :: (X.pn ++ pins))) (v := .ref a) S4 hN hi hloc rfl (fun s5 S5 => ?_) (.inr hln)
          refine wpAny_mono ((hsu a oe4 cls d (X.pn ++ pins) hz4 ⟨_, hd4⟩).run [] s5 _ H' _ S5 (hyes rfl a na)) (fun f s6 hsp => ?_) (fun _ _ z => False.elim z)
          have end_ : ∀ {σ6 : L2.St} {H6 : Hp} {Q : Shared → Prop}, Inv (X.suite a ((a, oe4) :: (X.pn ++ pins))) [] σ6 H6 s6 → (∀ s7, Inv X pins (σ6.set i none) H6 s7 → Q s7) →
              wpAny (model X.prog X.w) X.A (do bindName X.env n .none; unbindBehindTheSuite X.env n pos') (fun _ s7 => Q s7) X.xe s6 := fun {σ6 H6 Q} S6 hq => gone_ok (S6.unsuite ok) hN hi hln hq
          cases f with
          | next =>
            obtain ⟨σ6, H6, S6, q6⟩ := hsp
            exact end_ S6 fun s7 J7 => ⟨_, _, J7, q6⟩
          | brk =>
            obtain ⟨σ6, H6, S6, q6⟩ := hsp
            exact end_ S6 fun s7 J7 => ⟨_, _, J7, q6⟩
          | cont =>
            obtain ⟨σ6, H6, S6, q6⟩ := hsp
            exact end_ S6 fun s7 J7 => ⟨_, _, J7, q6⟩
          | ret u =>
            obtain ⟨v6, σ6, H6, S6, r6, q6⟩ := hsp
            exact end_ S6 fun s7 J7 => ⟨_, _, _, J7, r6, q6⟩
        | false =>
          show wpAny _ X.A (handleBy (.ref a) X.env hds2) _ _ _
          exact ih (hno rfl)
    exact go hh w
  · cases f with
    | next =>
      obtain ⟨σ', H', J', q⟩ := hsp
      exact wpAny_execs_nil ⟨σ', H', J'.ofTry ok, q⟩
    | brk =>
      obtain ⟨σ', H', J', q⟩ := hsp
      exact ⟨σ', H', J'.ofTry ok, q⟩
    | cont =>
      obtain ⟨σ', H', J', q⟩ := hsp
      exact ⟨σ', H', J'.ofTry ok, q⟩
    | ret u =>
      obtain ⟨v, σ', H', J', r, q⟩ := hsp
      exact ⟨v, σ', H', J'.ofTry ok, r, q⟩
end
end BV
/-! the checker is right: try, all statements -/
namespace BV
open PySem PySem.Spec L2
section
variable {G : Ctx} {tab : List (Str × List Str)} {S : Sc} {X : Cx} {z : Option Xz} {W : WX}
theorem slots_un {S : Sg} {z : Option Xz} {g : Gh} {H : Hp} {e : Sl} {σ : L2.St} {i : Nat} (so : slotsOk S z g H e σ) : slotsOk S none g H (e.set i none) (σ.set i none) := by
  obtain ⟨h1, h2, h3⟩ := so
  refine ⟨by rw [List.length_set, List.length_set]; exact h1, fun j u q => ?_, fun x hx => nomatch hx⟩
  by_cases hj : i = j
  · subst hj
    by_cases hl : i < e.length
    · rw [List.getElem?_set_self hl] at q
      cases q
    · rw [List.getElem?_eq_none (by rw [List.length_set]; omega)] at q
      cases q
  · rw [List.getElem?_set_ne hj] at q
    obtain ⟨w, w1, w2⟩ := h2 j u q
    exact ⟨w, by rw [List.getElem?_set_ne hj]; exact w1, w2⟩
theorem pos_unb {S : Sg} {x : Xz} {i : Nat} {g : Gh} {H : Hp} {D : Ends} {r : RS} (h : PoS S none g H D W (r.unb (some i))) : PoS S (some x) g H (dAs D i) W0 r := by
  cases r with
  | nx e m => exact fun g' H' σ' s' r' so => h g' H' (σ'.set i none) s' r' (slots_un so)
  | rt t m => exact h
  | bk e m => exact fun g' H' σ' s' r' so => h g' H' (σ'.set i none) s' r' (slots_un so)
  | ct e m => exact fun g' H' σ' s' r' so => h g' H' (σ'.set i none) s' r' (slots_un so)
  | exc c xs e m => exact h.elim
  | bad => exact h
theorem pos_unb0 {S : Sg} {g : Gh} {H : Hp} {D : Ends} {r : RS} (h : PoS S none g H D W (r.unb none)) : PoS S none g H D W0 r := by
  cases r with
  | exc c xs e m => exact h.elim
  | _ => exact h
theorem slots_exn {S : Sg} {g : Gh} {H : Hp} {e : Sl} {σ : L2.St} {i : Nat} {c : Nat} {xs : List T} {a : Addr} {cls : Value} {d : Option Addr} (so : slotsOk S none g H e σ) (r : repX S g H c xs cls d) :
    slotsOk S (some ⟨i, a, cls, d⟩) g H (e.set i (some (.exn c xs))) (σ.set i (some (.ref a))) := by
  have h0 := slots_set (i := i) (t := .exn c xs) (v := V.ref a) so ⟨a, rfl⟩ (fun x hx => nomatch hx)
  refine ⟨h0.1, h0.2.1, fun x hx c' xs' q => ?_⟩
  obtain rfl := Option.some.inj hx
  dsimp only at q ⊢
  by_cases hl : i < e.length
  · rw [List.getElem?_set_self hl] at q
    have e1 := Option.some.inj (Option.some.inj q)
    cases e1
    exact ⟨by rw [List.getElem?_set_self (by rw [← so.1]; exact hl)], r⟩
  · rw [List.getElem?_eq_none (by rw [List.length_set]; omega)] at q
    cases q
/-- what the checker of a block does is right -/
def RecS (G : Ctx) (tab : List (Str × List Str)) (rec : Sc → List Stmt → Option (List MS)) : Prop := ∀ (S : Sc) (X : Cx) (z : Option Xz) (W : WX), XOk G tab S X z W → XSt X → ∀ (st : List Stmt) (ms : List MS), rec S st = some ms → BSs X tab z W st (denSs ms)
theorem names_of {x : Str} {v : V} {u : Value} (hg : Gl X x) (hd : dbg x = false) (C : ClsN X.K X.mg x v u) : Names X x u := ⟨hg, (dbg_of hd).1, C.ok⟩
theorem xo_tr (xo : XOk G tab S X none W) {W' : WX} {pn : List (Addr × Obj)} {xe : Value → Shared → Prop} (tk : Takes (X.tr pn xe) W') : XOk G tab S (X.tr pn xe) none W' :=
  ⟨xo.N, xo.nd, xo.sc, xo.calm, xo.gk, xo.un, tk, xo.hz, xo.hc, (fun x h => nomatch h), fun h x q e => ⟨(xo.lm h x q e).code, (xo.lm h x q e).tb, (xo.lm h x q e).q⟩⟩
theorem xs_tr (xs : XSt X) {pn : List (Addr × Obj)} {xe : Value → Shared → Prop} (ps : PassesOwn (model X.prog X.w) X.A X.env xe) : XSt (X.tr pn xe) := ⟨ps, xs.stk, xs.frm, xs.kd, xs.fn⟩
theorem xo_suite (xo : XOk G tab S X none W) {i : Nat} {a : Addr} {oe : Obj} {cls : Value} {d : Option Addr} {pn : List (Addr × Obj)} (hz : Zc cls d oe) (hf : ∃ vs, oe.data = .fields vs) :
    XOk G tab { S with calm := false, hot := some i } (X.suite a ((a, oe) :: pn)) (some ⟨i, a, cls, d⟩) W0 := by
  obtain ⟨k, gk, _, rh⟩ := xo.gk
  refine ⟨xo.N, xo.nd, xo.sc, rfl, ⟨k, gk, (fun h => nomatch h), ⟨rh.dp, rh.un⟩⟩, xo.un, takes0, rfl, (fun h => nomatch h), (fun x h => ?_), fun h x q e => ⟨(xo.lm h x q e).code, (xo.lm h x q e).tb, (xo.lm h x q e).q⟩⟩
  obtain rfl := Option.some.inj h
  exact ⟨X, oe, pn, rfl, hz, hf⟩
theorem xo_suite0 (xo : XOk G tab S X none W) {a : Addr} {oe : Obj} {pn : List (Addr × Obj)} : XOk G tab { S with calm := false } (X.suite a ((a, oe) :: pn)) none W0 := by
  obtain ⟨k, gk, _, rh⟩ := xo.gk
  exact ⟨xo.N, xo.nd, xo.sc, rfl, ⟨k, gk, (fun h => nomatch h), ⟨rh.dp, rh.un⟩⟩, xo.un, takes0, xo.hz, (fun _ => rfl), (fun x h => nomatch h), fun h x q e => ⟨(xo.lm h x q e).code, (xo.lm h x q e).tb, (xo.lm h x q e).q⟩⟩
theorem xs_suite (xs : XSt X) {a : Addr} {pn : List (Addr × Obj)} : XSt (X.suite a pn) := ⟨PassesOwn.never, xs.stk, xs.frm, xs.kd, xs.fn⟩
theorem trs_use {cs : List (Nat × Bool)} {u : Value} {g : Gh} {H : Hp} {c : Nat} {xs : List T} {cls : Value} {d : Option Addr} {b : Bool} (hC : ∀ c b, cs.lookup c = some b → ∃ n ks, tab[c]? = some (n, ks) ∧ ∀ D, X.mg n = some (.ref D) → PySem.W.exmOne X.K (.ref D) u = some b)
    (h : cs.lookup c = some b) (r : repX (sg X tab) g H c xs cls d) : PySem.W.exmOne X.K cls u = some b := by
  obtain ⟨n, ks, C, h1, h2, h3, _⟩ := r
  obtain ⟨n', ks', q1, q2⟩ := hC c b h
  have h1' : tab[c]? = some (n, ks) := h1
  rw [q1] at h1'
  obtain ⟨rfl, rfl⟩ := Prod.mk.inj (Option.some.inj h1')
  rw [h3]
  exact q2 C h2
theorem bs_try_as {rec : Sc → List Stmt → Option (List MS)} (ok : RecS G tab rec) (xo : XOk G tab S X none W) (xs : XSt X) {x n : Str} {i : Nat} {v : V} {u : Value} {cs : List (Nat × Bool)} {body suite : List Stmt} {b0 : Stmt} {y w : List MS} {np pos pos' : Pos}
    (hg : Gl X x) (hd : dbg x = false) (C : ClsN X.K X.mg x v u) (hC : ∀ c b, cs.lookup c = some b → ∃ n ks, tab[c]? = some (n, ks) ∧ ∀ D, X.mg n = some (.ref D) → PySem.W.exmOne X.K (.ref D) u = some b)
    (hi : X.N[i]? = some n) (hn : X.env.scope.names.lookup n = some .local) (hy : rec S body = some y) (hw : rec { S with calm := false, hot := some i } (b0 :: suite) = some w) :
    BS X tab none W (.Try body [.ExceptHandler (some (.Name x np)) (some n) (b0 :: suite) pos'] [] [] pos) (denS (.try y cs (some i) w)) := by
  refine ps_w (ps_try_as (i := i) (tb := fun W' => liftS (sg X tab) none W' (denSs y)) (ts := fun a cls d => liftS (sg X tab) (some ⟨i, a, cls, d⟩) W0 (denSs w)) (Wout := W) xs.stk xs.frm xo.nd hi hn (names_of hg hd C) xo.tk
    (fun W' pn xe tk ps => ok S (X.tr pn xe) none W' (xo_tr xo tk) (xs_tr xs ps) body y hy)
    (fun a oe cls d pn hz hf => ok _ (X.suite a ((a, oe) :: pn)) (some ⟨i, a, cls, d⟩) W0 (xo_suite xo hz hf) (xs_suite xs) (b0 :: suite) w hw)) fun D σ H ⟨g, e, m, rl, so, p⟩ => ?_
  refine ⟨g, e, m, rl, so, ?_⟩
  simp only [denS] at p
  split at p
  · rename_i c ys e1 m1 hr
    rw [hr]
    intro g' H' σ' cls d s' r' so' hx
    split at p
    · rename_i hb
      refine ⟨true, trs_use hC hb hx, fun _ a ha => ?_, fun q => nomatch q⟩
      exact ⟨g', e1.set i (some (.exn c ys)), m1, r', slots_exn so' hx, pos_unb (PoS.later s' p)⟩
    · rename_i hb
      exact ⟨false, trs_use hC hb hx, (fun q => nomatch q), fun _ => p g' H' σ' cls d s' r' so' hx⟩
    · exact p.elim
  · rename_i hne
    cases q : denSs y e m with
    | exc c ys e1 m1 => exact absurd q (hne c ys e1 m1)
    | _ => rw [q] at p; exact p
theorem bs_try_only {rec : Sc → List Stmt → Option (List MS)} (ok : RecS G tab rec) (xo : XOk G tab S X none W) (xs : XSt X) {x : Str} {v : V} {u : Value} {cs : List (Nat × Bool)} {body suite : List Stmt} {b0 : Stmt} {y w : List MS} {np pos pos' : Pos}
    (hg : Gl X x) (hd : dbg x = false) (C : ClsN X.K X.mg x v u) (hC : ∀ c b, cs.lookup c = some b → ∃ n ks, tab[c]? = some (n, ks) ∧ ∀ D, X.mg n = some (.ref D) → PySem.W.exmOne X.K (.ref D) u = some b)
    (hy : rec S body = some y) (hw : rec { S with calm := false } (b0 :: suite) = some w) :
    BS X tab none W (.Try body [.ExceptHandler (some (.Name x np)) none (b0 :: suite) pos'] [] [] pos) (denS (.try y cs none w)) := by
  refine ps_w (ps_try_only (tb := fun W' => liftS (sg X tab) none W' (denSs y)) (ts := fun a cls d => liftS (sg X tab) none W0 (denSs w)) (Wout := W) xs.stk xs.frm (names_of hg hd C) xo.tk
    (fun W' pn xe tk ps => ok S (X.tr pn xe) none W' (xo_tr xo tk) (xs_tr xs ps) body y hy)
    (fun a oe cls d pn hz hf => ok _ (X.suite a ((a, oe) :: pn)) none W0 (xo_suite0 xo) (xs_suite xs) (b0 :: suite) w hw)) fun D σ H ⟨g, e, m, rl, so, p⟩ => ?_
  refine ⟨g, e, m, rl, so, ?_⟩
  simp only [denS] at p
  split at p
  · rename_i c ys e1 m1 hr
    rw [hr]
    intro g' H' σ' cls d s' r' so' hx
    split at p
    · rename_i hb
      refine ⟨true, trs_use hC hb hx, fun _ a ha => ?_, fun q => nomatch q⟩
      exact ⟨g', e1, m1, r', so', pos_unb0 (PoS.later s' p)⟩
    · rename_i hb
      exact ⟨false, trs_use hC hb hx, (fun q => nomatch q), fun _ => p g' H' σ' cls d s' r' so' hx⟩
    · exact p.elim
  · rename_i hne
    cases q : denSs y e m with
    | exc c ys e1 m1 => exact absurd q (hne c ys e1 m1)
    | _ => rw [q] at p; exact p
/-- the clauses as they are read -/
inductive HdL (X : Cx) (tab : List (Str × List Str)) : List (List (Nat × Bool) × Option Nat × List MS) → List HdT → Prop
  | nil : HdL X tab [] []
  | only {cs : List (Nat × Bool)} {w : List MS} {u : Value} {l : List (List (Nat × Bool) × Option Nat × List MS)} {L : List HdT} (hC : ∀ c b, cs.lookup c = some b → ∃ n ks, tab[c]? = some (n, ks) ∧ ∀ D, X.mg n = some (.ref D) → PySem.W.exmOne X.K (.ref D) u = some b) (r : HdL X tab l L) :
      HdL X tab ((cs, none, w) :: l) ((u, none, fun _ _ _ => liftS (sg X tab) none W0 (denSs w)) :: L)
  | named {cs : List (Nat × Bool)} {i : Nat} {w : List MS} {u : Value} {l : List (List (Nat × Bool) × Option Nat × List MS)} {L : List HdT} (hC : ∀ c b, cs.lookup c = some b → ∃ n ks, tab[c]? = some (n, ks) ∧ ∀ D, X.mg n = some (.ref D) → PySem.W.exmOne X.K (.ref D) u = some b) (r : HdL X tab l L) :
      HdL X tab ((cs, some i, w) :: l) ((u, some i, fun a cls d => liftS (sg X tab) (some ⟨i, a, cls, d⟩) W0 (denSs w)) :: L)
theorem denSs_one (y : MS) (e : Sl) (m : Sto) : denSs [y] e m = denS y e m := by
  simp only [denSs]
  cases denS y e m <;> rfl
theorem step_only {cs : List (Nat × Bool)} {y w : List MS} {u : Value} {L : List HdT} {g : Gh} {H : Hp} {D : Ends} {e : Sl} {m : Sto} (hC : ∀ c b, cs.lookup c = some b → ∃ n ks, tab[c]? = some (n, ks) ∧ ∀ D, X.mg n = some (.ref D) → PySem.W.exmOne X.K (.ref D) u = some b)
    (p : PoS (sg X tab) none g H D (wHds X.K W D L) (denS (.try y cs none w) e m)) : PoS (sg X tab) none g H D (wHds X.K W D ((u, none, fun _ _ _ => liftS (sg X tab) none W0 (denSs w)) :: L)) (denSs y e m) := by
  simp only [denS] at p
  split at p
  · rename_i c ys e1 m1 hr
    rw [hr]
    intro g' H' σ' cls d s' r' so' hx
    split at p
    · rename_i hb
      refine ⟨true, trs_use hC hb hx, fun _ a ha => ?_, fun q => nomatch q⟩
      exact ⟨g', e1, m1, r', so', pos_unb0 (PoS.later s' p)⟩
    · rename_i hb
      exact ⟨false, trs_use hC hb hx, (fun q => nomatch q), fun _ => p g' H' σ' cls d s' r' so' hx⟩
    · exact p.elim
  · rename_i hne
    cases q : denSs y e m with
    | exc c ys e1 m1 => exact absurd q (hne c ys e1 m1)
    | _ => rw [q] at p; exact p
theorem step_named {cs : List (Nat × Bool)} {i : Nat} {y w : List MS} {u : Value} {L : List HdT} {g : Gh} {H : Hp} {D : Ends} {e : Sl} {m : Sto} (hC : ∀ c b, cs.lookup c = some b → ∃ n ks, tab[c]? = some (n, ks) ∧ ∀ D, X.mg n = some (.ref D) → PySem.W.exmOne X.K (.ref D) u = some b)
    (p : PoS (sg X tab) none g H D (wHds X.K W D L) (denS (.try y cs (some i) w) e m)) : PoS (sg X tab) none g H D (wHds X.K W D ((u, some i, fun a cls d => liftS (sg X tab) (some ⟨i, a, cls, d⟩) W0 (denSs w)) :: L)) (denSs y e m) := by
  simp only [denS] at p
  split at p
  · rename_i c ys e1 m1 hr
    rw [hr]
    intro g' H' σ' cls d s' r' so' hx
    split at p
    · rename_i hb
      refine ⟨true, trs_use hC hb hx, fun _ a ha => ?_, fun q => nomatch q⟩
      exact ⟨g', e1.set i (some (.exn c ys)), m1, r', slots_exn so' hx, pos_unb (PoS.later s' p)⟩
    · rename_i hb
      exact ⟨false, trs_use hC hb hx, (fun q => nomatch q), fun _ => p g' H' σ' cls d s' r' so' hx⟩
    · exact p.elim
  · rename_i hne
    cases q : denSs y e m with
    | exc c ys e1 m1 => exact absurd q (hne c ys e1 m1)
    | _ => rw [q] at p; exact p
theorem hdl_use {l : List (List (Nat × Bool) × Option Nat × List MS)} {L : List HdT} (h : HdL X tab l L) {g : Gh} {H : Hp} {D : Ends} {e : Sl} {m : Sto} : ∀ y : MS, PoS (sg X tab) none g H D W (denS (foldT y l) e m) → PoS (sg X tab) none g H D (wHds X.K W D L) (denS y e m) := by
  induction h with
  | nil => exact fun y p => p
  | only hC r ih =>
    intro y p
    have := step_only (W := W) hC (ih _ p)
    rwa [denSs_one] at this
  | named hC r ih =>
    intro y p
    have := step_named (W := W) hC (ih _ p)
    rwa [denSs_one] at this
theorem cHd_ok {rec : Sc → List Stmt → Option (List MS)} (ok : RecS G tab rec) (xo : XOk G tab S X none W) (xs : XSt X) {h : ExceptHandler} {cs : List (Nat × Bool)} {oi : Option Nat} {w : List MS} (q : cHd G rec S h = some (cs, oi, w)) {hds : List ExceptHandler} {l : List (List (Nat × Bool) × Option Nat × List MS)} {L : List HdT} (r1 : HdsAs X hds L) (r2 : HdL X tab l L) :
    ∃ t : HdT, HdsAs X (h :: hds) (t :: L) ∧ HdL X tab ((cs, oi, w) :: l) (t :: L) := by
  unfold cHd at q
  split at q
  · rename_i x np nm b0 suite p2
    split at q
    · rename_i hc
      rw [Bool.and_eq_true] at hc
      obtain ⟨c2, c3⟩ := hc
      have c3 : dbg x = false := by simpa using c3
      have hg : Gl X x := gl_of xo.sc c2
      split at q
      · cases q
      · rename_i cs hcs
        obtain ⟨k, gk, _⟩ := xo.gk
        obtain ⟨v, u, C, hC⟩ := gk.trs _ (lookup_mem hcs)
        split at q
        · split at q
          · rename_i w hw
            cases q
            exact ⟨_, .only (names_of hg c3 C) (fun a oe cls d pn hz hf => ok _ (X.suite a ((a, oe) :: pn)) none W0 (xo_suite0 xo) (xs_suite xs) (b0 :: suite) w hw) r1, .only hC r2⟩
          · cases q
        · rename_i nn
          split at q
          · rename_i hl
            split at q
            · cases q
            · rename_i i hi
              split at q
              · rename_i w hw
                cases q
                exact ⟨_, .named (names_of hg c3 C) (by rw [xo.N]; exact ixOf_0 hi) (by show X.env.scope.names.lookup nn = some .local; rw [xo.sc]; exact lc_of hl) (fun a oe cls d pn hz hf => ok _ (X.suite a ((a, oe) :: pn)) (some ⟨i, a, cls, d⟩) W0 (xo_suite xo hz hf) (xs_suite xs) (b0 :: suite) w hw) r1, .named hC r2⟩
              · cases q
          · cases q
    · cases q
  · cases q
theorem cHds_ok {rec : Sc → List Stmt → Option (List MS)} (ok : RecS G tab rec) (xo : XOk G tab S X none W) (xs : XSt X) : ∀ {hds : List ExceptHandler} {l : List (List (Nat × Bool) × Option Nat × List MS)}, cHds G rec S hds = some l → ∃ L, HdsAs X hds L ∧ HdL X tab l L
  | [], l, q => by
    cases q
    exact ⟨_, .nil, .nil⟩
  | h :: hds, l, q => by
    unfold cHds at q
    split at q
    · rename_i x l' hx hl
      cases q
      obtain ⟨L, r1, r2⟩ := cHds_ok ok xo xs hl
      obtain ⟨cs, oi, w⟩ := x
      obtain ⟨t, r3, r4⟩ := cHd_ok ok xo xs hx r1 r2
      exact ⟨_, r3, r4⟩
    · cases q
theorem bs_try_hds {rec : Sc → List Stmt → Option (List MS)} (ok : RecS G tab rec) (xo : XOk G tab S X none W) (xs : XSt X) {h1 : ExceptHandler} {hds : List ExceptHandler} {body : List Stmt} {y w : List MS} {cs : List (Nat × Bool)} {oi : Option Nat} {l : List (List (Nat × Bool) × Option Nat × List MS)} {pos : Pos}
    (hy : rec S body = some y) (q1 : cHd G rec S h1 = some (cs, oi, w)) (q2 : cHds G rec S hds = some l) : BS X tab none W (.Try body (h1 :: hds) [] [] pos) (denS (foldT (.try y cs oi w) l)) := by
  obtain ⟨L, r1, r2⟩ := cHds_ok ok xo xs q2
  obtain ⟨t, r3, r4⟩ := cHd_ok ok xo xs q1 r1 r2
  refine ps_w (ps_try_hds (tb := fun W' => liftS (sg X tab) none W' (denSs y)) (Wout := W) xs.stk xs.frm xo.nd xo.tk
    (fun W' pn xe tk ps => ok S (X.tr pn xe) none W' (xo_tr xo tk) (xs_tr xs ps) body y hy) r3) fun D σ H ⟨g, e, m, rl, so, p⟩ => ?_
  refine ⟨g, e, m, rl, so, ?_⟩
  have p := hdl_use r2 _ p
  cases r4 with
  | only hC r => exact step_only hC p
  | named hC r => exact step_named hC p
theorem cS1_ok {rec : Sc → List Stmt → Option (List MS)} (n : Nat) (ok : RecS G tab rec) (xo : XOk G tab S X z W) (xs : XSt X) {st : Stmt} {ms : MS} (h : cS1 G n rec S st = some ms) : BS X tab z W st (denS ms) := by
  have oe := cE_ok (G := G) (tab := tab) n
  have neg : ∀ {a : Expr}, isCmp a ≠ true → isCmp a = false := fun h => Bool.not_eq_true _ ▸ h
  unfold cS1 at h
  split at h
  · obtain rfl := Option.some.inj h; exact bs_cast bs_pass fun s m => by simp only [denS]
  · obtain rfl := Option.some.inj h; exact bs_cast bs_brk fun s m => by simp only [denS]
  · obtain rfl := Option.some.inj h; exact bs_cast bs_cont fun s m => by simp only [denS]
  · rename_i e p
    split at h
    · rename_i hs
      obtain rfl := Option.some.inj h
      unfold isStrC at hs
      split at hs
      · exact bs_cast bs_doc fun s m => by simp only [denS]
      · cases hs
    · split at h
      · rename_i m hm
        obtain rfl := Option.some.inj h
        exact cLm_ok xo hm
      · split at h
        · cases h
        · rename_i hc
          obtain ⟨m, hm, rfl⟩ := map_some h
          exact bs_cast (bs_expr (sw_none (neg hc)) (oe S X z W xo e m hm).1) fun s m => by simp only [denS]
  · obtain rfl := Option.some.inj h; exact bs_cast bs_retN fun s m => by simp only [denS]
  · rename_i e p
    obtain ⟨m, hm, rfl⟩ := map_some h
    exact bs_cast (bs_ret (cMu_ok xo hm)) fun s m => by simp only [denS]
  · exact cAsg_ok xo xs h
  · rename_i x px a p
    split at h
    · rename_i hx
      split at h
      · rename_i i hi
        split at h
        · cases h
        · rename_i hh
          obtain ⟨m, hm, rfl⟩ := map_some h
          have hl : X.env.scope.names.lookup x = some .local := by rw [xo.sc]; exact lc_of hx
          exact bs_cast (bs_aug xo.nd (by rw [xo.N]; exact ixOf_0 hi) (.inl hl) (.inr hl) (oe S X z W xo a m hm).1 (zne xo hh)) fun s m => by simp only [denS] <;> rfl
      · cases h
    · cases h
  · rename_i o f po a p
    split at h
    · cases h
    · split at h
      · rename_i fs x m hfs hx hm
        obtain rfl := Option.some.inj h
        obtain ⟨k, gk, _⟩ := xo.gk
        exact bs_cast (bs_faug (fs := fs) (gk.flds _ (lookup_mem hfs)) (oe S X z W xo o x hx).1 (oe S X z W xo a m hm).1) fun s m => by simp only [denS] <;> rfl
      · cases h
  · rename_i c a b p
    split at h
    · rename_i hc
      split at h
      · rename_i x y w hx hy hw
        obtain rfl := Option.some.inj h
        exact bs_cast (bs_ite ((oe S X z W xo c x hx).2 20 hc) (ok S X z W xo xs a y hy) (ok S X z W xo xs b w hw)) fun s m => by simp only [denS] <;> rfl
      · cases h
    · cases h
  · rename_i tg it b p
    split at h
    · rename_i hc
      split at h
      · rename_i mi t xs' l y hmi htg hy
        obtain rfl := Option.some.inj h
        have hcx := calm_of xo hc
        obtain ⟨i1, i2⟩ := cI_ok oe xo hmi
        obtain ⟨g1, g2, g3, g4⟩ := tgC_ok (X := X) (S := S) xo.N xo.nd (.inl hcx) htg (loc_all xo fun x _ => .inl (xs.fn x))
        have hT : TgOk (sg X tab) z t (tgG X.K t) := by
          rcases g4 with rfl | ⟨i, rfl, rfl⟩
          · exact tg_many fun i hi => zne xo (g2 i hi)
          · exact tg_one (zne xo (g2 i List.mem_cons_self))
        exact bs_cast (bs_for (tg := tg) (it := it) (body := b) hT (fun e m w m' => denI_stands) (ps_for xs.ps hcx i1 g1 (ok S X z W xo xs b y hy) (folded_of i2))) fun s m => by simp only [denS] <;> rfl
      · cases h
    · cases h
  · rename_i c b p
    split at h
    · rename_i hc
      split at h
      · rename_i x y hx hy
        obtain rfl := Option.some.inj h
        exact bs_cast (bs_whl (n := G.whl) xs.ps ((oe S X z W xo c x hx).2 20 hc) (ok S X z W xo xs b y hy)) fun s m => by simp only [denS]
      · cases h
    · cases h
  · rename_i body x np nm b0 suite p1 p2
    split at h
    · rename_i hc
      rw [Bool.and_eq_true, Bool.and_eq_true] at hc
      obtain ⟨⟨c1, c2⟩, c3⟩ := hc
      have c3 : dbg x = false := by simpa using c3
      have hg : Gl X x := gl_of xo.sc c2
      obtain rfl := xo.hc c1
      split at h
      · cases h
      · rename_i cs hcs
        obtain ⟨k, gk, _⟩ := xo.gk
        obtain ⟨v, u, C, hC⟩ := gk.trs _ (lookup_mem hcs)
        split at h
        · split at h
          · rename_i y w hy hw
            obtain rfl := Option.some.inj h
            exact bs_try_only ok xo xs hg c3 C hC hy hw
          · cases h
        · rename_i nn
          split at h
          · rename_i hl
            split at h
            · cases h
            · rename_i i hi
              split at h
              · rename_i y w hy hw
                obtain rfl := Option.some.inj h
                exact bs_try_as ok xo xs hg c3 C hC (by rw [xo.N]; exact ixOf_0 hi) (by rw [xo.sc]; exact lc_of hl) hy hw
              · cases h
          · cases h
    · cases h
  · rename_i body h1 h2 hs p1
    split at h
    · rename_i c1
      obtain rfl := xo.hc c1
      split at h
      · rename_i y cs i w l hy q1 q2
        obtain rfl := Option.some.inj h
        exact bs_try_hds ok xo xs hy q1 q2
      · cases h
    · cases h
  · rename_i x p m j p2 pos pos'
    split at h
    · rename_i c hc'
      split at h
      · rename_i hc
        rw [Bool.and_eq_true, Bool.and_eq_true] at hc
        obtain ⟨⟨c1, c2⟩, c3⟩ := hc
        have c3 : dbg x = false := by simpa using c3
        obtain rfl := Option.some.inj h
        obtain ⟨k, gk, _⟩ := xo.gk
        have R := gk.rses _ (lookup_mem hc')
        exact bs_cast (bs_rse (c := c) ⟨R.ok⟩ (calm_of xo c1) xo.tk (gl_of xo.sc c2) (dbg_of c3).1) fun s m => by simp only [denS, denL, st_ok]
      · cases h
    · rename_i c i _ hc'
      split at h
      · rename_i hc
        rw [Bool.and_eq_true, Bool.and_eq_true] at hc
        obtain ⟨⟨c1, c2⟩, c3⟩ := hc
        have c3 : dbg x = false := by simpa using c3
        obtain rfl := Option.some.inj h
        obtain ⟨k, gk, room, _⟩ := xo.gk
        obtain ⟨j', hj, R⟩ := gk.roed _ (lookup_mem hc')
        exact bs_cast (bs_roeD (c := c) (i := i) ⟨R.ok⟩ ((room c1).mono hj) (calm_of xo c1) xo.tk (gl_of xo.sc c2) (dbg_of c3).1) fun s m => by simp only [denS, denL, den, bind_ok, st_ok]
      · cases h
    · obtain rfl := Option.some.inj h
      exact bs_never
  · rename_i x p m j p2 b pos pos'
    split at h
    · rename_i c mb hc' hm
      split at h
      · rename_i hc
        rw [Bool.and_eq_true, Bool.and_eq_true, Bool.and_eq_true] at hc
        obtain ⟨⟨⟨c1, c2⟩, c3⟩, c4⟩ := hc
        have c3 : dbg x = false := by simpa using c3
        have c4 : isStar b = false := by simpa using c4
        obtain rfl := Option.some.inj h
        obtain ⟨k, gk, room, _⟩ := xo.gk
        obtain ⟨j', hj, R⟩ := gk.roes _ (lookup_mem hc')
        refine bs_cast (bs_roe (c := c) ⟨R.ok⟩ ((room c1).mono hj) (calm_of xo c1) xo.tk (gl_of xo.sc c2) (dbg_of c3).1 (star_ne c4) (plain_star fun d hd => ?_) (oe S X z W xo b mb hm).1) fun s m => ?_
        · rw [List.mem_singleton.mp hd]
          exact c4
        · simp only [denS, denL]
          cases den mb s m <;> rfl
      · cases h
    · cases h
    · obtain rfl := Option.some.inj h
      exact bs_never
  · obtain rfl := Option.some.inj h
    exact bs_never
  · cases h
theorem cSs_ok : ∀ n, RecS G tab (cSs G n)
  | 0 => fun S X z W xo xs st ms h => nomatch h
  | n + 1 => fun S X z W xo xs st ms h => by
    cases st with
    | nil =>
      obtain rfl := Option.some.inj h
      have e : denSs [] = fun e m => RS.nx e m := by funext e m; simp only [denSs]
      rw [e]
      exact bs_nil
    | cons s r =>
      unfold cSs at h
      split at h
      · rename_i x l h1 h2
        obtain rfl := Option.some.inj h
        have q := bs_cons (cS1_ok 40 (cSs_ok n) xo xs h1) (cSs_ok n S X z W xo xs r l h2)
        have e : denSs (x :: l) = fun e m => (denS x e m).seq fun e' m' => denSs l e' m' := by funext e m; simp only [denSs]
        rw [e]
        exact q
      · cases h
end
end BV
/-! from the head's facts to defs that do what their intermediate text says -/
namespace BV
open PySem PySem.Spec L2 He PyProof.Rows
section
variable {P : Program} {w : World} {K : PySem.W.Frag} {mg : Str → Option Value} {base : Heap} {tab : List (Str × List Str)} {G : Ctx} {k : Nat}
theorem GOk.up {j : Nat} (g : GOk G P w K mg base tab k) (h : k ≤ j) : GOk G P w K mg base tab j :=
  ⟨fun p hp => by obtain ⟨i, h1, h2⟩ := g.fns p hp; exact ⟨i, by omega, h2⟩, fun p hp => by obtain ⟨i, h1, h2⟩ := g.mks p hp; exact ⟨i, by omega, h2⟩, fun p hp => by obtain ⟨i, h1, h2⟩ := g.mths p hp; exact ⟨i, by omega, h2⟩,
    g.flds, g.rses, fun p hp => by obtain ⟨i, h1, h2⟩ := g.roes p hp; exact ⟨i, by omega, h2⟩, fun p hp => by obtain ⟨i, h1, h2⟩ := g.roed p hp; exact ⟨i, by omega, h2⟩, g.bis, g.xis, g.xfl, g.trs, g.csts, fun p hp => by obtain ⟨i, h1, h2⟩ := g.mkd p hp; exact ⟨i, by omega, h2⟩, fun x hx ad hm => by obtain ⟨i, h1, h2⟩ := g.hld x hx ad hm; exact ⟨i, by omega, h2⟩, fun p hp => by obtain ⟨i, h1, h2⟩ := g.mthd p hp; exact ⟨i, by omega, h2⟩, fun p hp => by obtain ⟨i, h1, h2⟩ := g.hfs p hp; exact ⟨i, by omega, h2⟩⟩
theorem GOk.mu (g : GOk G P w K mg base tab k) (m : List Str) (n : Nat) : GOk { G with muts := m, whl := n } P w K mg base tab k := ⟨g.fns, g.mks, g.mths, g.flds, g.rses, g.roes, g.roed, g.bis, g.xis, g.xfl, g.trs, g.csts, g.mkd, g.hld, g.mthd, g.hfs⟩
theorem GOk.roeD {x : Str} {c : Nat} {i : Int} (g : GOk G P w K mg base tab k) (h : RoeB' P w K mg base tab (k + 1) x c (some i)) : GOk (G.roeD x c i) P w K mg base tab (k + 2) := by
  have u := g.up (show k ≤ k + 2 by omega)
  refine ⟨u.fns, u.mks, u.mths, g.flds, g.rses, u.roes, fun p hp => ?_, g.bis, g.xis, g.xfl, g.trs, g.csts, u.mkd, u.hld, u.mthd, u.hfs⟩
  rcases List.mem_cons.mp hp with rfl | hp
  · exact ⟨k + 1, Nat.le_refl _, h⟩
  · exact u.roed p hp
theorem GOk.fn {x : Str} {n : Nat} {f : Fn} (g : GOk G P w K mg base tab k) (h : FnB' P w K mg base tab (k + 1) x n f) : GOk (G.fn x n f) P w K mg base tab (k + 1) := by
  have u := g.up (Nat.le_succ k)
  refine ⟨fun p hp => ?_, u.mks, u.mths, g.flds, g.rses, u.roes, u.roed, g.bis, g.xis, g.xfl, g.trs, g.csts, u.mkd, u.hld, u.mthd, u.hfs⟩
  rcases List.mem_cons.mp hp with rfl | hp
  · exact ⟨k + 1, Nat.le_refl _, h⟩
  · exact u.fns p hp
theorem GOk.mk' {x : Str} {c : Nat} {b : Bool} {f : Fn} (g : GOk G P w K mg base tab k) (h : MkB' P w K mg base tab (k + 1) x c f) : GOk (G.mk' x c b f) P w K mg base tab (k + 2) := by
  have u := g.up (show k ≤ k + 2 by omega)
  refine ⟨u.fns, fun p hp => ?_, u.mths, g.flds, g.rses, u.roes, u.roed, g.bis, g.xis, g.xfl, g.trs, g.csts, u.mkd, u.hld, u.mthd, u.hfs⟩
  rcases List.mem_cons.mp hp with rfl | hp
  · exact ⟨k + 1, Nat.le_refl _, h⟩
  · exact u.mks p hp
theorem FnB'.none {x : Str} {n : Nat} {f : Fn} (h : FnB' P w K mg base tab k x n f) (e : ∀ t m, f [t] m = .ok .non m) : FnB' P w K mg base tab k x n fnNone := by
  obtain ⟨ad, fd, ps, h1, h2, h3, h4, h5⟩ := h.ok
  refine ⟨ad, fd, ps, h1, h2, h3, h4.imp fun vs H Q E ⟨g, m, ts, a, b, p⟩ => ⟨g, m, ts, a, b, ?_⟩, h5⟩
  match ts, p with
  | [t], p => rw [e t m]; exact p
  | [], p => exact p.elim
  | _ :: _ :: _, p => exact p.elim
theorem GOk.mth {x : Str} {fs : List (Nat × Fn)} (g : GOk G P w K mg base tab k) (h : MethB' P w K mg base tab (k + 1) x fs) : GOk (G.mth x fs) P w K mg base tab (k + 1) := by
  have u := g.up (Nat.le_succ k)
  refine ⟨u.fns, u.mks, fun p hp => ?_, g.flds, g.rses, u.roes, u.roed, g.bis, g.xis, g.xfl, g.trs, g.csts, u.mkd, u.hld, u.mthd, u.hfs⟩
  rcases List.mem_cons.mp hp with rfl | hp
  · exact ⟨k + 1, Nat.le_refl _, h⟩
  · exact u.mths p hp
/-- a def's names -/
def scB (N ps : List Str) (sc : Scope) : Bool := (match sc.kind with | .function => true | _ => false) && (!sc.isCoroutine && (!sc.isGenerator && (decide N.Nodup && (decide (N.take ps.length = ps) &&
  (ps.all (fun x => match sc.names.lookup x with | some .local => true | some .cell => true | _ => false) && sc.names.all fun y => match y.2 with | .free => false | _ => true)))))
theorem scB_ok {N ps : List Str} {sc : Scope} (h : scB N ps sc = true) : FnScope N ps sc := by
  unfold scB at h
  obtain ⟨h1, h⟩ := ba h
  obtain ⟨h2, h⟩ := ba h
  obtain ⟨h3, h⟩ := ba h
  obtain ⟨h4, h⟩ := ba h
  obtain ⟨h5, h⟩ := ba h
  obtain ⟨h6, h7⟩ := ba h
  refine ⟨?_, by simpa using h2, by simpa using h3, of_decide_eq_true h4, of_decide_eq_true h5, fun x hx => ?_, fun y hy e => ?_⟩
  · split at h1
    · assumption
    · cases h1
  · have q := List.all_eq_true.mp h6 x hx
    split at q
    · rename_i e; exact .inl e
    · rename_i e; exact .inr e
    · cases q
  · have q := List.all_eq_true.mp h7 y hy
    rw [e] at q
    cases q
theorem xo_cx {N : List Str} {qual : Str} {scope : Scope} {f : Addr} {cd : Value} {A : Around} {outer : List Env} {s : Shared} {H : Hp} {E : XK} (nd : N.Nodup) (g : GOk G P w K mg base tab k) (hr : Room k (A.deeper (envOfC qual scope s.heap.objs.size f cd))) :
    XOk G tab ⟨N, scope, true, none, none⟩ (cxOf (L2.CX P w) P w K mg base N qual scope f cd A outer s H E) none (fun cls d _ H => E cls d H) :=
  ⟨rfl, nd, rfl, rfl, ⟨k, g, (fun _ => hr), L2H.roomH_of hr⟩, by have := hr.un; show (A.deeper _).units + 65 < cLine; omega, takes_of rfl rfl rfl rfl, rfl, fun _ => rfl, (fun x h => nomatch h), fun _ _ _ h => nomatch h⟩
theorem xs_cx {N : List Str} {qual : Str} {scope : Scope} {f : Addr} {cd : Value} {A : Around} {outer : List Env} {s : Shared} {H : Hp} {E : XK} (hk : scope.kind = .function) :
    XSt (cxOf (L2.CX P w) P w K mg base N qual scope f cd A outer s H E) :=
  ⟨passes_of (K := fun e s'' => L2.CX P w outer H s E e s'') rfl, rfl, rfl, hk, fun _ => rfl⟩
theorem fnOk_w {CX : CXT} {f : Addr} {fd : FuncData} {ps : List Str} {sp sp' : Sp} (F : FnOk P w K mg base CX k f fd ps sp) (h : ∀ vs H Q E, sp' vs H Q E → sp vs H Q E) : FnOk P w K mg base CX k f fd ps sp' := by
  exact F.imp h
/-- THE RULE: a def does what its checked text says -/
theorem def_ok {x qual : Str} {st : Stmt} {f : Addr} {fd : FuncData} {N ps : List Str} {n np nl : Nat} {b : List MS} (g : GOk G P w K mg base tab k) (F : Fun K x qual st f fd) (sc : scB N ps (defScope st) = true)
    (c : cSs G n ⟨N, defScope st, true, none, none⟩ (defBody st) = some b) (hp : ps.length = np) (hl : N.length = nl) : FnOk P w K mg base (L2.CX P w) (k + 1) f fd ps (spB ⟨K, mg, tab⟩ (fnK np nl b)) := by
  have S := scB_ok sc
  exact fnK_ok F S hp hl fun cdv A outer s H E hr => cSs_ok n ⟨N, defScope st, true, none, none⟩ _ none _ (xo_cx S.nd g hr) (xs_cx S.kind) (defBody st) b c
theorem def_okD {x qual : Str} {st : Stmt} {f : Addr} {fd : FuncData} {N ps : List Str} {n np nl : Nat} {b : List MS} (g : GOk G P w K mg base tab k) (F : Fun K x qual st f fd) (sc : scB N ps (defScope st) = true)
    (c : cSs G n ⟨N, defScope st, true, none, none⟩ (defBody st) = some b) (hp : ps.length = np) (hl : N.length = nl) : FnOk P w K mg base (L2.CX P w) (k + 1) f fd ps (spB ⟨K, mg, tab⟩ (fnD np nl b)) :=
  fnOk_w (def_ok g F sc c hp hl) spB_D
end
/-! ### the facts as one test -/
section
variable {P : Program} {w : World} {K : PySem.W.Frag} {mg : Str → Option Value} {base h : Heap} {tab : List (Str × List Str)} {G : Ctx}
theorem clsU_ok (X : K.In h) (Gn : h.Ns mainGlobals mg) {x : Str} {v : V} {u : Value} (e : clsU K x = some (v, u)) : ClsN K mg x v u := by
  unfold clsU at e
  split at e
  · rename_i c
    obtain ⟨rfl, rfl⟩ := Prod.mk.inj (Option.some.inj e)
    exact ⟨.own _, .inl (glo_ok X Gn c)⟩
  · split at e
    · rename_i c
      obtain ⟨c1, c2⟩ := ba c
      split at e
      · rename_i s hs
        obtain ⟨rfl, rfl⟩ := Prod.mk.inj (Option.some.inj e)
        exact ⟨.ty _, .inr ⟨free_ok X Gn c1, hs, of_decide_eq_true c2⟩⟩
      · cases e
    · cases e
theorem excCB_ok {D : Addr} (e : excCB K D = true) : ExcC K D := by
  unfold excCB at e
  obtain ⟨h1, e⟩ := ba e
  obtain ⟨h2, e⟩ := ba e
  obtain ⟨h3, e⟩ := ba e
  obtain ⟨h4, e⟩ := ba e
  obtain ⟨h5, e⟩ := ba e
  obtain ⟨h6, e⟩ := ba e
  obtain ⟨h7, h8⟩ := ba e
  exact ⟨eqO_ok h1, eqO_ok h2, of_decide_eq_true h3, h4, eqO_ok h5, eqO_ok h6, of_decide_eq_true h7, of_decide_eq_true h8⟩
theorem consts_ok : ∀ {xs : List T} {us : List Value}, constsB xs us = true → ∃ vs, Vals vs us ∧ xs.length = us.length ∧ ∀ (S : Sg) (g : Gh) (H : Hp), reps S g H xs vs
  | [], [], _ => ⟨[], .nil, rfl, fun _ _ _ => rfl⟩
  | .int i :: xs, .int j t :: us, e => by
    unfold constsB at e
    obtain ⟨e1, e2⟩ := ba e
    obtain rfl := of_decide_eq_true e1
    obtain ⟨vs, h1, h2, h3⟩ := consts_ok e2
    exact ⟨.int i :: vs, .cons ⟨t, rfl⟩ h1, by rw [List.length_cons, List.length_cons, h2], fun S g H => ⟨.int i, vs, rfl, rfl, h3 S g H⟩⟩
  | .str a :: xs, .str b t :: us, e => by
    unfold constsB at e
    obtain ⟨e1, e2⟩ := ba e
    obtain ⟨e3, e4⟩ := ba e2
    obtain rfl := of_decide_eq_true e1
    obtain ⟨vs, h1, h2, h3⟩ := consts_ok e4
    exact ⟨.str a :: vs, .cons ⟨t, rfl⟩ h1, by rw [List.length_cons, List.length_cons, h2], fun S g H => ⟨.str a, vs, rfl, ⟨rfl, of_decide_eq_true e3⟩, h3 S g H⟩⟩
theorem tupC_ok {a : Addr} {xs : List T} (e : tupCB K a xs = true) : rep0 K (.tup xs) (.ref a) := by
  unfold tupCB at e
  split at e
  · rename_i o ho
    split at e
    · rename_i its n hd
      obtain ⟨e1, e2⟩ := ba e
      obtain ⟨e3, e4⟩ := ba e2
      obtain ⟨vs, h1, h2, h3⟩ := consts_ok e4
      have e3 := of_decide_eq_true e3
      intro S g H hS
      refine ⟨a, vs, rfl, .inr ⟨o, its, n, by rw [hS]; exact ho, of_decide_eq_true e1, hd, ?_, h1⟩, ?_, h3 S g H⟩
      · rw [sizeLine_eq]
        omega
      · rw [h2, Array.length_toList]
        omega
    · cases e
  · cases e
theorem gB_ok (X : K.In h) (Gn : h.Ns mainGlobals mg) (e : gB K tab G = true) (e1 : G.fns = []) (e2 : G.mks = []) (e3 : G.mths = []) (e4 : G.roes = [] := by rfl) (e5 : G.roed = [] := by rfl) (e6 : G.mkd = [] := by rfl) (e7 : G.mthd = [] := by rfl) (e8 : G.hfs = [] := by rfl) : GOk G P w K mg base tab 0 := by
  unfold gB at e
  obtain ⟨h1, e⟩ := ba e
  obtain ⟨h2, e⟩ := ba e
  obtain ⟨h3, e⟩ := ba e
  obtain ⟨h4, e⟩ := ba e
  obtain ⟨h5, e⟩ := ba e
  obtain ⟨h6, e⟩ := ba e
  obtain ⟨h7, h8⟩ := ba e
  have one : ∀ {n : Str} {C : Addr}, (Fa.glo n).ok K = true → mg n = some (.ref C) → C = ga K n := fun c q => by
    rw [glo_ok X Gn c] at q
    cases q
    rfl
  have gone : ∀ {n : Str} {C : Addr} {b : Bool}, ((Fa.free n).ok K || b) = true → mg n = some (.ref C) → b = true := fun {n C b} c q => by
    cases hf : (Fa.free n).ok K with
    | true =>
      rw [free_ok X Gn hf] at q
      cases q
    | false =>
      rw [hf] at c
      exact c
  refine ⟨(by rw [e1]; intro p hp; cases hp), (by rw [e2]; intro p hp; cases hp), (by rw [e3]; intro p hp; cases hp), fun p hp c i hl => ?_, fun p hp => ?_, (by rw [e4]; intro p hp; cases hp), (by rw [e5]; intro p hp; cases hp), fun x hx => free_ok X Gn (List.all_eq_true.mp h3 x hx), fun p hp => ?_, fun p hp c hc => ?_, fun p hp => ?_, fun p hp => ?_, (by rw [e6]; intro p hp; cases hp), (fun x hx ad hm => by
    rw [free_ok X Gn (List.all_eq_true.mp h8 x hx)] at hm
    cases hm), (by rw [e7]; intro p hp; cases hp), (by rw [e8]; intro p hp; cases hp)⟩
  · have q := List.all_eq_true.mp (List.all_eq_true.mp h1 p hp) (c, i) (lookup_mem hl)
    try dsimp only at q
    split at q
    · rename_i n ks ht
      obtain ⟨q2, q⟩ := ba q
      obtain ⟨q3, q⟩ := ba q
      obtain ⟨q4, q⟩ := ba q
      refine ⟨n, ks, ht, of_decide_eq_true q2, of_decide_eq_true q3, of_decide_eq_true q4, fun C hC => ?_⟩
      have q := gone q hC
      obtain ⟨q1, q⟩ := ba q
      obtain ⟨q5, q6⟩ := ba q
      rw [one q1 hC]
      exact ⟨cls_ok q5, noat_ok q6⟩
    · cases q
  · have q := List.all_eq_true.mp h2 p hp
    try dsimp only at q
    split at q
    · rename_i n ks ht
      obtain ⟨q1, q⟩ := ba q
      obtain ⟨q2, q3⟩ := ba q
      have en : n = p.1 := of_decide_eq_true q1
      rw [← en]
      obtain ⟨r1, r2, r3, r4⟩ := exc_ok q3
      exact ⟨ks, ga K n, ht, glo_ok X Gn q2, r1, r2, r3, r4⟩
    · cases q
  · have q := List.all_eq_true.mp h4 p hp
    try dsimp only at q
    split at q
    · rename_i v u hu
      refine ⟨v, u, clsU_ok X Gn hu, fun c b hl => ?_⟩
      have q2 := List.all_eq_true.mp q (c, b) (lookup_mem hl)
      dsimp only at q2
      split at q2
      · rename_i n ks ht
        refine ⟨n, ks, ht, fun D hD => ?_⟩
        obtain ⟨r1, r⟩ := ba (gone q2 hD)
        obtain ⟨r2, r3⟩ := ba r
        rw [one r1 hD]
        exact ⟨of_decide_eq_true r2, excCB_ok r3⟩
      · cases q2
    · cases q
  · have q := List.all_eq_true.mp (List.all_eq_true.mp h5 p hp) c hc
    try dsimp only at q
    split at q
    · rename_i n ks ht
      obtain ⟨q2, qq⟩ := ba q
      have ek : ks = [p.1] := of_decide_eq_true q2
      subst ek
      refine ⟨n, ht, fun C hC => ?_⟩
      obtain ⟨q1, q5⟩ := ba (gone qq hC)
      obtain ⟨q3, q4⟩ := ba q5
      rw [one q1 hC]
      exact ⟨xfB_ok q3, eqO_ok q4⟩
    · cases q
  · have q := List.all_eq_true.mp h6 p hp
    try dsimp only at q
    split at q
    · rename_i v u hu
      refine ⟨v, u, clsU_ok X Gn hu, fun c b hl => ?_⟩
      have q2 := List.all_eq_true.mp q (c, b) (lookup_mem hl)
      dsimp only at q2
      split at q2
      · rename_i n ks ht
        refine ⟨n, ks, ht, fun D hD => ?_⟩
        obtain ⟨r1, r2⟩ := ba (gone q2 hD)
        rw [one r1 hD]
        exact of_decide_eq_true r2
      · cases q2
    · cases q
  · have q := List.all_eq_true.mp h7 p hp
    try dsimp only at q
    split at q
    · rename_i i hi
      obtain ⟨t, ht⟩ := He.int_ok X Gn q
      refine ⟨_, .int i, ht, ⟨t, rfl⟩, ?_⟩
      rw [hi]
      exact fun _ _ _ _ => rfl
    · rename_i z hz
      obtain ⟨q1, q2⟩ := ba q
      obtain ⟨t, ht⟩ := He.str_ok X Gn q1
      refine ⟨_, .str z, ht, ⟨t, rfl⟩, ?_⟩
      rw [hz]
      exact fun _ _ _ _ => ⟨rfl, of_decide_eq_true q2⟩
    · rename_i xs hx
      obtain ⟨q1, q2⟩ := ba q
      refine ⟨_, .ref (ga K p.1), glo_ok X Gn q1, rfl, ?_⟩
      rw [hx]
      exact tupC_ok q2
    · cases q
/-- a global def -/
theorem fn_glo {k : Nat} {x : Str} {n : Nat} {f : Fn} {fd : FuncData} {ps : List Str} (X : K.In h) (Gn : h.Ns mainGlobals mg) (c : (Fa.glo x).ok K = true) (kp : PySem.W.keepIn K (.ref (ga K x)) = true) (hn : ps.length = n)
    (F : FnOk P w K mg base (L2.CX P w) k (ga K x) fd ps (spB ⟨K, mg, tab⟩ f)) (b : Binds K fd ps []) : FnB' P w K mg base tab k x n f :=
  ⟨ga K x, fd, ps, glo_ok X Gn c, kp, hn, F, b⟩
theorem mk_glo {k : Nat} {x : Str} {c : Nat} {ks : List Str} {f : Fn} {fd : FuncData} {ps : List Str} (X : K.In h) (Gn : h.Ns mainGlobals mg) (ht : tab[c]? = some (x, ks)) (c1 : (Fa.glo x).ok K = true) (c2 : (Fa.mkr x).ok K = true)
    (F : FnOk P w K mg base (L2.CX P w) k (ma K (ga K x) "__init__") fd ps (spB ⟨K, mg, tab⟩ f)) (b : Binds K fd ps []) : MkB' P w K mg base tab k x c f :=
  ⟨ks, ga K x, _, fd, ps, ht, glo_ok X Gn c1, mkr_ok c2, F, b⟩
/-- a law's end: what the def of the law does gives True -/
theorem law_sp {f : Fn} (hf : ∀ ns : List Int, ns.length ≤ 63 → ∃ m', f [.scr ns] [] = .ok (.bl true) m') (H : Hp) (a : Addr) (ns : List Int) (hl : ns.length ≤ 63) (hO : Only H) (hS : SqL K H a (ns.map V.int)) :
    spB ⟨K, mg, tab⟩ f [.ref a] H (fun v _ => v = .bl true) fun _ _ _ => False := by
  obtain ⟨m', e⟩ := hf ns hl
  refine ⟨⟨fun _ => False, [], fun a h => nomatch h⟩, [], [.scr ns], ⟨rfl, List.nodup_nil, fun a h => h.elim, fun n a c h => by simp at h⟩, ?_, ?_⟩
  · refine ⟨_, [], rfl, ⟨a, rfl, ?_, by omega⟩, rfl⟩
    rcases hS with (hS | ⟨o, hS⟩) | hS
    · rcases hO a with q | ⟨o, xs, q⟩
      · rw [q] at hS; cases hS
      · rw [q] at hS; cases hS
    · exact .inl (.inl ⟨o, hS⟩)
    · exact .inl (.inr (.inr hS))
  · rw [e]
    exact fun g' H' s' r' v hv => hv
end
end BV
/-! the __init__ of such exceptions -/
namespace BV
open PySem PySem.Spec L2 He PyProof.Rows
section
variable {P : Program} {w : World} {K : PySem.W.Frag} {mg : Str → Option Value} {base : Heap} {CH fI : Addr} {fd : FuncData} {x qual : Str} {params : Arguments} {scope : Scope} {body : List Stmt} {dvs : List V} {kws : List (Str × V)} {k : Nat}
theorem init_line {p1 p2 p3 p4 p5 p6 p7 p8 p9 p10 : Pos} (F : FunD K x qual params [.Expr (.Call (.Attribute (.Name "HouseError" p1) "__init__" p2) [.Name "self" p3, .Name "text" p4] [] p5) p6, .Assign [.Attribute (.Name "self" p7) "line" p8] (.Name "line" p9) p10] scope dvs kws fI fd)
    (S : FnScope ["self", "text", "line"] ["self", "text", "line"] scope) (hm : mg "HouseError" = some (.ref CH)) (FH : HinC K CH) (g0 : scope.names.lookup ("HouseError" : Str) = some NameKind.globalImplicit) (v0 : scope.names.lookup ("self" : Str) = some NameKind.local) (v1 : scope.names.lookup ("text" : Str) = some NameKind.local) (v2 : scope.names.lookup ("line" : Str) = some NameKind.local)
    (hl : (p2.endLine == p5.line) = true) :
    FnOk P w K mg base (L2.CX P w) (k + 1) fI fd ["self", "text", "line"] (spO K "line") := by
  refine FunD.ok F S (fun vs H Q E ⟨a, C, t, y, e, _⟩ => by rw [e]; rfl) fun cdv A outer s H vs Q E hr ⟨a, C, t, y, ev, T, nf, ha, q⟩ => ?_
  subst ev
  refine ⟨_, pss_cons (ps_expr (pe_hinit (CH := CH) g0 hm (by decide) FH (pa_cons (pe_var (i := 0) rfl (.inl v0)) (pa_cons (pe_var (i := 1) rfl (.inl v1)) pa_nil)) (meth_eq rfl hl (by simp [isStar]) (by simp)))) (pss_one (ps_ost (pe_var (i := 0) rfl (.inl v0)) (pe_var (i := 2) rfl (.inl v2)))), ?_⟩
  refine ⟨_, rfl, _, rfl, a, C, [t], rfl, by simp, T, ha, _, rfl, _, rfl, a, C, rfl, T, nf, .inl ⟨ha, fun dx h1 h2 => ?_⟩⟩
  exact q dx h1 h2
theorem init_by {p1 p2 p3 p4 p5 p6 p7 p8 p9 p10 : Pos} (F : FunD K x qual params [.Expr (.Call (.Attribute (.Name "HouseError" p1) "__init__" p2) [.Name "self" p3, .Name "text" p4] [] p5) p6, .Assign [.Attribute (.Name "self" p7) "by" p8] (.Name "by" p9) p10] scope dvs kws fI fd)
    (S : FnScope ["self", "text", "by"] ["self", "text", "by"] scope) (hm : mg "HouseError" = some (.ref CH)) (FH : HinC K CH) (g0 : scope.names.lookup ("HouseError" : Str) = some NameKind.globalImplicit) (v0 : scope.names.lookup ("self" : Str) = some NameKind.local) (v1 : scope.names.lookup ("text" : Str) = some NameKind.local) (v2 : scope.names.lookup ("by" : Str) = some NameKind.local)
    (hl : (p2.endLine == p5.line) = true) :
    FnOk P w K mg base (L2.CX P w) (k + 1) fI fd ["self", "text", "by"] (spO K "by") := by
  refine FunD.ok F S (fun vs H Q E ⟨a, C, t, y, e, _⟩ => by rw [e]; rfl) fun cdv A outer s H vs Q E hr ⟨a, C, t, y, ev, T, nf, ha, q⟩ => ?_
  subst ev
  refine ⟨_, pss_cons (ps_expr (pe_hinit (CH := CH) g0 hm (by decide) FH (pa_cons (pe_var (i := 0) rfl (.inl v0)) (pa_cons (pe_var (i := 1) rfl (.inl v1)) pa_nil)) (meth_eq rfl hl (by simp [isStar]) (by simp)))) (pss_one (ps_ost (pe_var (i := 0) rfl (.inl v0)) (pe_var (i := 2) rfl (.inl v2)))), ?_⟩
  refine ⟨_, rfl, _, rfl, a, C, [t], rfl, by simp, T, ha, _, rfl, _, rfl, a, C, rfl, T, nf, .inl ⟨ha, fun dx h1 h2 => ?_⟩⟩
  exact q dx h1 h2
theorem init_now {p1 p2 p3 p4 p5 p6 p7 p8 p9 p10 : Pos} (F : FunD K x qual params [.Expr (.Call (.Attribute (.Name "HouseError" p1) "__init__" p2) [.Name "self" p3, .Name "text" p4] [] p5) p6, .Assign [.Attribute (.Name "self" p7) "now" p8] (.Name "now" p9) p10] scope dvs kws fI fd)
    (S : FnScope ["self", "text", "now"] ["self", "text", "now"] scope) (hm : mg "HouseError" = some (.ref CH)) (FH : HinC K CH) (g0 : scope.names.lookup ("HouseError" : Str) = some NameKind.globalImplicit) (v0 : scope.names.lookup ("self" : Str) = some NameKind.local) (v1 : scope.names.lookup ("text" : Str) = some NameKind.local) (v2 : scope.names.lookup ("now" : Str) = some NameKind.local)
    (hl : (p2.endLine == p5.line) = true) :
    FnOk P w K mg base (L2.CX P w) (k + 1) fI fd ["self", "text", "now"] (spO K "now") := by
  refine FunD.ok F S (fun vs H Q E ⟨a, C, t, y, e, _⟩ => by rw [e]; rfl) fun cdv A outer s H vs Q E hr ⟨a, C, t, y, ev, T, nf, ha, q⟩ => ?_
  subst ev
  refine ⟨_, pss_cons (ps_expr (pe_hinit (CH := CH) g0 hm (by decide) FH (pa_cons (pe_var (i := 0) rfl (.inl v0)) (pa_cons (pe_var (i := 1) rfl (.inl v1)) pa_nil)) (meth_eq rfl hl (by simp [isStar]) (by simp)))) (pss_one (ps_ost (pe_var (i := 0) rfl (.inl v0)) (pe_var (i := 2) rfl (.inl v2)))), ?_⟩
  refine ⟨_, rfl, _, rfl, a, C, [t], rfl, by simp, T, ha, _, rfl, _, rfl, a, C, rfl, T, nf, .inl ⟨ha, fun dx h1 h2 => ?_⟩⟩
  exact q dx h1 h2
def glK (sc : Scope) (x : Str) : Bool := match sc.names.lookup x with
  | some .globalImplicit => true
  | _ => false
def lcK (sc : Scope) (x : Str) : Bool := match sc.names.lookup x with
  | some .local => true
  | _ => false
theorem glK_ok {sc : Scope} {x : Str} (h : glK sc x = true) : sc.names.lookup x = some NameKind.globalImplicit := by
  unfold glK at h
  split at h
  · assumption
  · cases h
theorem lcK_ok {sc : Scope} {x : Str} (h : lcK sc x = true) : sc.names.lookup x = some NameKind.local := by
  unfold lcK at h
  split at h
  · assumption
  · cases h
/-- is a def such an __init__? -/
def isInit (f : Str) (b : List Stmt) : Bool := match b with
  | [.Expr (.Call (.Attribute (.Name h _) i p2) [.Name a _, .Name t _] [] p5) _, .Assign [.Attribute (.Name c _) f1 _] (.Name f2 _) _] =>
    decide (h = "HouseError" ∧ i = "__init__" ∧ a = "self" ∧ t = "text" ∧ c = "self" ∧ f1 = f ∧ f2 = f) && (p2.endLine == p5.line)
  | _ => false
def initB (f : Str) (st : Stmt) : Bool := isInit f (defBody st) && (scB ["self", "text", f] ["self", "text", f] (defScope st) && (glK (defScope st) "HouseError" && (lcK (defScope st) "self" && (lcK (defScope st) "text" && lcK (defScope st) f))))
theorem init_ok {st : Stmt} {f : Str} (hf : f = "line" ∨ f = "by" ∨ f = "now") (F : FunD K x qual params (defBody st) (defScope st) dvs kws fI fd) (e : initB f st = true) (hm : mg "HouseError" = some (.ref CH)) (FH : HinC K CH) : FnOk P w K mg base (L2.CX P w) (k + 1) fI fd ["self", "text", f] (spO K f) := by
  unfold initB at e
  obtain ⟨e1, e⟩ := ba e
  obtain ⟨e2, e⟩ := ba e
  obtain ⟨e3, e⟩ := ba e
  obtain ⟨e4, e⟩ := ba e
  obtain ⟨e5, e6⟩ := ba e
  generalize defBody st = bd at *
  unfold isInit at e1
  split at e1
  · obtain ⟨c, hl⟩ := ba e1
    obtain ⟨c1, c2, c3, c4, c5, c6, c7⟩ := of_decide_eq_true c
    subst c1 c2 c3 c4 c5 c6 c7
    rcases hf with hf | hf | hf
    · subst hf
      exact init_line F (scB_ok e2) hm FH (glK_ok e3) (lcK_ok e4) (lcK_ok e5) (lcK_ok e6) hl
    · subst hf
      exact init_by F (scB_ok e2) hm FH (glK_ok e3) (lcK_ok e4) (lcK_ok e5) (lcK_ok e6) hl
    · subst hf
      exact init_now F (scB_ok e2) hm FH (glK_ok e3) (lcK_ok e4) (lcK_ok e5) (lcK_ok e6) hl
  · cases e1
theorem roe_fact {tab : List (Str × List Str)} {h : Heap} {st : Stmt} {n f : Str} {c : Nat} {d : Option Int} (X : K.In h) (Gn : h.Ns mainGlobals mg) (e : roeB K n f = true) (ht : tab[c]? = some (n, [f])) (hf : f = "line" ∨ f = "by" ∨ f = "now")
    (F : FunD K x qual params (defBody st) (defScope st) dvs kws (ma K (ga K n) "__init__") fd) (ei : initB f st = true) (hb : match d with
      | none => Binds K fd ["self", "text", f] []
      | some i => ∃ ds, Vals [V.int i] ds ∧ Binds K fd ["self", "text", f] ds) : RoeB' P w K mg base tab (k + 1) n c d := by
  unfold roeB at e
  obtain ⟨e1, e⟩ := ba e
  obtain ⟨e2, e⟩ := ba e
  obtain ⟨e3, e4⟩ := ba e
  exact ⟨f, ga K n, _, fd, _, ht, glo_ok X Gn e1, oex_ok e3, init_ok hf F ei (glo_ok X Gn e2) (hin_ok e4), hb⟩
end
end BV
/-! methods' facts; the text of a row -/
namespace BV
open PySem PySem.Spec L2 He PyProof.Rows
section
variable {P : Program} {w : World} {K : PySem.W.Frag} {mg : Str → Option Value} {base h : Heap} {tab : List (Str × List Str)} {G : Ctx}
theorem mth_none {k : Nat} {m : Str} : MethB' P w K mg base tab k m [] := fun c F hl => nomatch hl
theorem mth_cons {j k : Nat} {m : Str} {fs : List (Nat × Fn)} {c : Nat} {n : Str} {ks : List Str} {f : Fn} {fd : FuncData} {ps : List Str} (X : K.In h) (Gn : h.Ns mainGlobals mg) (M : MethB' P w K mg base tab j m fs) (hj : j ≤ k) (ht : tab[c]? = some (n, ks)) (hm : m ∉ ks)
    (c1 : (Fa.glo n).ok K = true) (c2 : (Fa.cls n).ok K = true) (c3 : (Fa.meth n m).ok K = true)
    (F : FnOk P w K mg base (L2.CX P w) k (ma K (ga K n) m) fd ps (spB ⟨K, mg, tab⟩ f)) (b : Binds K fd ps []) : MethB' P w K mg base tab k m ((c, f) :: fs) := by
  intro c' F' hl
  rw [List.lookup_cons] at hl
  split at hl
  · rename_i e
    obtain rfl := eq_of_beq e
    obtain rfl := Option.some.inj hl
    refine ⟨n, ks, ht, hm, fun C hC => ?_⟩
    rw [glo_ok X Gn c1] at hC
    cases hC
    exact ⟨cls_ok c2, _, fd, ps, meth_ok c3, F, b⟩
  · obtain ⟨n', ks', q1, q2, q3⟩ := M c' F' hl
    refine ⟨n', ks', q1, q2, fun C hC => ?_⟩
    obtain ⟨r1, f2, fd2, ps2, r2, r3, r4⟩ := q3 C hC
    exact ⟨r1, f2, fd2, ps2, r2, r3.mono hj, r4⟩
end
/-- where nothing is wished of what is raised, nothing is let out -/
theorem fn_calm {P : Program} {w : World} {K : PySem.W.Frag} {mg : Str → Option Value} {base : Heap} {k : Nat} {f : Addr} {fd : FuncData} {ps : List Str} {sp : Sp} (F : FnOk P w K mg base (L2.CX P w) k f fd ps sp) :
    FnOk P w K mg base CX0 k f fd ps (fun vs H Q _ => sp vs H Q fun _ _ _ => False) := by
  refine ⟨fun vs H Q E q => F.len _ _ _ _ q, fun A outer s H args us vs Q E hr he hb hv hs => ?_⟩
  refine codeAny_mono (F.run A outer s H args us vs Q _ hr he hb hv hs) fun r s' hq => ?_
  cases r with
  | error e =>
    obtain ⟨_, _, _, _, _, _, _, _, _, _, _, _, z⟩ := (show L2.CX P w outer H s (fun _ _ _ => False) e s' from hq)
    exact z.elim
  | ok fl => cases fl <;> exact hq
theorem law_end {P : Program} {l : PySem.W.OpenLaw} {fa : List Fa} {fn : List DefD} {ex : PySem.W.Frag → Bool} {tab : List (Str × List Str)} {f : Fn} {q : Program} {loose : List Str} {XP : (Str → Option Value) → Heap → Prop} {d : DefRec} {n k : Nat}
    (hn : l.most = some 63) (hp : P = l.prog) (hdf : d.params.defaults = []) (hname : d.name = ("law" : Str)) (hr : Room k callerA)
    (all : ∀ (w : World) (mg : Str → Option Value) (h : Heap) (K : PySem.W.Frag), K.In h → h.Ns mainGlobals mg → SaysD fa fn K → ex K = true →
      ∃ fd : FuncData, (∀ (s : Shared) (u : Value), BindsTo s fd ⟨[u], []⟩ [("_law_script", u)]) ∧ ∀ base : Heap, FnOk P w K mg base (L2.CX P w) k (ga K "law") fd ["_law_script"] (spB ⟨K, mg, tab⟩ f))
    (gl : Fa.glo "law" ∈ fa)
    (hf : ∀ ns : List Int, ns.length ≤ 63 → ∃ m', f [.scr ns] [] = .ok (.bl true) m') : PySem.W.WalkO q loose XP (hookX n fa fn [] [] ex).says l.row.toRowW d [] (fun f vs => PySem.call f vs) := by
  subst hp
  refine L2.walk_ofE (n := 63) (k := k) (x := "_law_script") (CX := L2.CX0) hn (by decide) hdf hr ?_ (fun _ _ _ _ z => z)
  intro w mg fa' h Y Gn hmg
  obtain ⟨K, KX, c⟩ := Y
  have cd : SaysD fa fn K := c.t.d
  obtain ⟨fd, hb, F⟩ := all w mg h K KX Gn cd c.more
  have e : fa' = ga K "law" := by
    rw [hname, glo_ok KX Gn (cd.facts gl)] at hmg
    exact (Value.ref.inj (Option.some.inj hmg)).symm
  subst e
  exact ⟨K, fd, fun vs H Q _ => spB ⟨K, mg, tab⟩ f vs H Q fun _ _ _ => False, KX, hb, fun H a ns hl hO hS => law_sp hf H a ns hl hO hS, fun base _ _ => fn_calm (F base)⟩
/-! the facts read with the interpreter's statics beside -/
theorem law_endY {P : Program} {l : PySem.W.OpenLaw} {fa : List Fa} {fn : List DefD} {ex : PySem.W.Frag → Bool} {tab : List (Str × List Str)} {f : Fn} {q : Program} {loose : List Str} {XP : (Str → Option Value) → Heap → Prop} {d : DefRec} {n k : Nat}
    (hn : l.most = some 63) (hp : P = l.prog) (hdf : d.params.defaults = []) (hname : d.name = ("law" : Str)) (hr : Room k callerA)
    (all : ∀ (w : World) (mg : Str → Option Value) (h : Heap) (K : PySem.W.Frag), K.In h → h.Ns mainGlobals mg → SaysD fa fn K → ex K = true →
      ∃ fd : FuncData, (∀ (s : Shared) (u : Value), BindsTo s fd ⟨[u], []⟩ [("_law_script", u)]) ∧ ∀ base : Heap, FnOk P w K mg base (L2.CX P w) k (ga K "law") fd ["_law_script"] (spB ⟨K, mg, tab⟩ f))
    (gl : Fa.glo "law" ∈ fa)
    (hf : ∀ ns : List Int, ns.length ≤ 63 → ∃ m', f [.scr ns] [] = .ok (.bl true) m') : PySem.W.WalkO q loose XP (hookY n fa fn ex).says l.row.toRowW d [] (fun f vs => PySem.call f vs) :=
  law_end (n := n) (ex := ex) hn hp hdf hname hr all gl hf
/-! the end where the law makes lambdas -/
/-! the facts with the statics and with tables -/
end BV
/-! reading the intermediate language: equations for simp -/
namespace BV
open PySem PySem.Spec
/-! ### tests -/
def RS.tif (x : T) (a b : RS) : RS := match x with
  | .bl true => a
  | .bl false => b
  | _ => .bad
def Rs.tif {α : Type} (x : T) (a b : Rs α) : Rs α := match x with
  | .bl true => a
  | .bl false => b
  | _ => .bad
@[simp ↓] theorem tifS_bl (p : Bool) (a b : RS) : RS.tif (.bl p) a b = if p = true then a else b := by cases p <;> rfl
@[simp ↓] theorem tif_true {α : Type} (a b : Rs α) : Rs.tif (.bl true) a b = a := Eq.trans rfl rfl
@[simp ↓] theorem tif_false {α : Type} (a b : Rs α) : Rs.tif (.bl false) a b = b := Eq.trans rfl rfl
@[simp] theorem tif_and (p q : Bool) (m : Sto) : Rs.tif (.bl p) (.ok (T.bl q) m) (.ok (T.bl false) m) = .ok (T.bl (p && q)) m := by cases p <;> rfl
@[simp] theorem tif_or (p q : Bool) (m : Sto) : Rs.tif (.bl p) (.ok (T.bl true) m) (.ok (T.bl q) m) = .ok (T.bl (p || q)) m := by cases p <;> rfl
@[simp low] theorem tif_bl {α : Type} (p : Bool) (a b : Rs α) : Rs.tif (.bl p) a b = if p = true then a else b := by cases p <;> rfl
def notT (x : T) (m : Sto) : Rs T := match x with
  | .bl k => .ok (.bl (!k)) m
  | _ => .bad
@[simp] theorem notT_bl (k : Bool) (m : Sto) : notT (.bl k) m = .ok (.bl (!k)) m := rfl
def negT (x : T) (m : Sto) : Rs T := match x with
  | .int k => .ok (.int (-k)) m
  | _ => .bad
@[simp] theorem negT_int (k : Int) (m : Sto) : negT (.int k) m = .ok (.int (-k)) m := rfl
def ofB (o : Option Bool) (m : Sto) : Rs T := match o with
  | some b => .ok (.bl b) m
  | none => .bad
@[simp] theorem ofB_some (b : Bool) (m : Sto) : ofB (some b) m = .ok (.bl b) m := rfl
def slotT (o : Option (Option T)) (m : Sto) : Rs T := match o with
  | some (some t) => .ok t m
  | _ => .bad
@[simp] theorem slotT_some (t : T) (m : Sto) : slotT (some (some t)) m = .ok t m := rfl
def callO (o : Option Fn) (k : Fn → Rs T) : Rs T := match o with
  | some F => k F
  | none => .bad
@[simp] theorem callO_some (F : Fn) (k : Fn → Rs T) : callO (some F) k = k F := Eq.trans rfl rfl
def intO (x : T) (m : Sto) : Rs (Option Int) := match x with
  | .int i => .ok (some i) m
  | _ => .bad
@[simp] theorem intO_int (i : Int) (m : Sto) : intO (.int i) m = .ok (some i) m := rfl
@[simp] theorem seqOf_tup (m : Sto) (xs : List T) : seqOf m (.tup xs) = some xs := rfl
@[simp] theorem seqOf_lst (m : Sto) (xs : List T) : seqOf m (.lst xs) = some xs := rfl
/-! ### expressions -/
/-! continuations by name: simp goes into one only where it is applied -/
def kLst (ts : List T) (m : Sto) : Rs T := .ok (.lst ts) m
@[simp] theorem kLst_ap (ts : List T) (m : Sto) : kLst ts m = .ok (.lst ts) m := rfl
def kTup (ts : List T) (m : Sto) : Rs T := .ok (.tup ts) m
@[simp] theorem kTup_ap (ts : List T) (m : Sto) : kTup ts m = .ok (.tup ts) m := rfl
noncomputable def kBin (o : Operator) (b : ME) (e : Sl) (x : T) (m : Sto) : Rs T := (den b e m).bind (binT o x)
@[simp] theorem kBin_ap (o : Operator) (b : ME) (e : Sl) (x : T) (m : Sto) : kBin o b e x m = (den b e m).bind (binT o x) := rfl
noncomputable def kCmp (o : CmpOp) (b : ME) (e : Sl) (x : T) (m : Sto) : Rs T := (den b e m).bind (cmpT o x)
@[simp] theorem kCmp_ap (o : CmpOp) (b : ME) (e : Sl) (x : T) (m : Sto) : kCmp o b e x m = (den b e m).bind (cmpT o x) := rfl
noncomputable def kTri5 (q : CmpOp) (d : ME) (e : Sl) (z k : T) (m : Sto) : Rs T := Rs.tif k ((den d e m).bind (cmpT q z)) (.ok (.bl false) m)
@[simp] theorem kTri5_ap (q : CmpOp) (d : ME) (e : Sl) (z k : T) (m : Sto) : kTri5 q d e z k m = Rs.tif k ((den d e m).bind (cmpT q z)) (.ok (.bl false) m) := rfl
noncomputable def kTri4 (p q : CmpOp) (d : ME) (e : Sl) (y z : T) (m : Sto) : Rs T := (cmpT p y z m).bind (kTri5 q d e z)
@[simp] theorem kTri4_ap (p q : CmpOp) (d : ME) (e : Sl) (y z : T) (m : Sto) : kTri4 p q d e y z m = (cmpT p y z m).bind (kTri5 q d e z) := rfl
noncomputable def kTri3 (p q : CmpOp) (c d : ME) (e : Sl) (y k : T) (m : Sto) : Rs T := Rs.tif k ((den c e m).bind (kTri4 p q d e y)) (.ok (.bl false) m)
@[simp] theorem kTri3_ap (p q : CmpOp) (c d : ME) (e : Sl) (y k : T) (m : Sto) : kTri3 p q c d e y k m = Rs.tif k ((den c e m).bind (kTri4 p q d e y)) (.ok (.bl false) m) := rfl
noncomputable def kTri2 (o p q : CmpOp) (c d : ME) (e : Sl) (x y : T) (m : Sto) : Rs T := (cmpT o x y m).bind (kTri3 p q c d e y)
@[simp] theorem kTri2_ap (o p q : CmpOp) (c d : ME) (e : Sl) (x y : T) (m : Sto) : kTri2 o p q c d e x y m = (cmpT o x y m).bind (kTri3 p q c d e y) := rfl
noncomputable def kTri (o p q : CmpOp) (b c d : ME) (e : Sl) (x : T) (m : Sto) : Rs T := (den b e m).bind (kTri2 o p q c d e x)
@[simp] theorem kTri_ap (o p q : CmpOp) (b c d : ME) (e : Sl) (x : T) (m : Sto) : kTri o p q b c d e x m = (den b e m).bind (kTri2 o p q c d e x) := rfl
noncomputable def kChn3 (p : CmpOp) (c : ME) (e : Sl) (y k : T) (m : Sto) : Rs T := Rs.tif k ((den c e m).bind (cmpT p y)) (.ok (.bl false) m)
@[simp] theorem kChn3_ap (p : CmpOp) (c : ME) (e : Sl) (y k : T) (m : Sto) : kChn3 p c e y k m = Rs.tif k ((den c e m).bind (cmpT p y)) (.ok (.bl false) m) := rfl
noncomputable def kChn2 (o p : CmpOp) (c : ME) (e : Sl) (x y : T) (m : Sto) : Rs T := (cmpT o x y m).bind (kChn3 p c e y)
@[simp] theorem kChn2_ap (o p : CmpOp) (c : ME) (e : Sl) (x y : T) (m : Sto) : kChn2 o p c e x y m = (cmpT o x y m).bind (kChn3 p c e y) := rfl
noncomputable def kChn (o p : CmpOp) (b c : ME) (e : Sl) (x : T) (m : Sto) : Rs T := (den b e m).bind (kChn2 o p c e x)
@[simp] theorem kChn_ap (o p : CmpOp) (b c : ME) (e : Sl) (x : T) (m : Sto) : kChn o p b c e x m = (den b e m).bind (kChn2 o p c e x) := rfl
noncomputable def kAnd (b : ME) (e : Sl) (x : T) (m : Sto) : Rs T := Rs.tif x (den b e m) (.ok (.bl false) m)
@[simp] theorem kAnd_ap (b : ME) (e : Sl) (x : T) (m : Sto) : kAnd b e x m = Rs.tif x (den b e m) (.ok (.bl false) m) := rfl
noncomputable def kOr (b : ME) (e : Sl) (x : T) (m : Sto) : Rs T := Rs.tif x (.ok (.bl true) m) (den b e m)
@[simp] theorem kOr_ap (b : ME) (e : Sl) (x : T) (m : Sto) : kOr b e x m = Rs.tif x (.ok (.bl true) m) (den b e m) := rfl
noncomputable def kIte (a b : ME) (e : Sl) (x : T) (m : Sto) : Rs T := Rs.tif x (den a e m) (den b e m)
@[simp] theorem kIte_ap (a b : ME) (e : Sl) (x : T) (m : Sto) : kIte a b e x m = Rs.tif x (den a e m) (den b e m) := rfl
noncomputable def kIdx (b : ME) (e : Sl) (x : T) (m : Sto) : Rs T := (den b e m).bind (idxT x)
@[simp] theorem kIdx_ap (b : ME) (e : Sl) (x : T) (m : Sto) : kIdx b e x m = (den b e m).bind (idxT x) := rfl
noncomputable def kSlc2 (hi : Option ME) (e : Sl) (x : T) (l : Option Int) (m : Sto) : Rs T := (denO hi e m).bind (slcT x l)
@[simp] theorem kSlc2_ap (hi : Option ME) (e : Sl) (x : T) (l : Option Int) (m : Sto) : kSlc2 hi e x l m = (denO hi e m).bind (slcT x l) := rfl
noncomputable def kSlc (lo hi : Option ME) (e : Sl) (x : T) (m : Sto) : Rs T := (denO lo e m).bind (kSlc2 hi e x)
@[simp] theorem kSlc_ap (lo hi : Option ME) (e : Sl) (x : T) (m : Sto) : kSlc lo hi e x m = (denO lo e m).bind (kSlc2 hi e x) := rfl
def kMeth3 (F : Fn) (x : T) (ts : List T) (m : Sto) : Rs T := F (x :: ts) m
@[simp] theorem kMeth3_ap (F : Fn) (x : T) (ts : List T) (m : Sto) : kMeth3 F x ts m = F (x :: ts) m := rfl
noncomputable def kMeth2 (l : List ME) (e : Sl) (m : Sto) (x : T) (F : Fn) : Rs T := (denL l e m).bind (kMeth3 F x)
@[simp] theorem kMeth2_ap (l : List ME) (e : Sl) (m : Sto) (x : T) (F : Fn) : kMeth2 l e m x F = (denL l e m).bind (kMeth3 F x) := rfl
noncomputable def kMeth (fs : List (Nat × Fn)) (l : List ME) (e : Sl) (x : T) (m : Sto) : Rs T := callO (methF fs x m) (kMeth2 l e m x)
@[simp] theorem kMeth_ap (fs : List (Nat × Fn)) (l : List ME) (e : Sl) (x : T) (m : Sto) : kMeth fs l e x m = callO (methF fs x m) (kMeth2 l e m x) := rfl
def kIsi (c : Ty) (x : T) (m : Sto) : Rs T := ofB (tyIs x m c) m
@[simp] theorem kIsi_ap (c : Ty) (x : T) (m : Sto) : kIsi c x m = ofB (tyIs x m c) m := rfl
def kIsn (cs : List Ty) (x : T) (m : Sto) : Rs T := ofB (tyAny x m cs) m
@[simp] theorem kIsn_ap (cs : List Ty) (x : T) (m : Sto) : kIsn cs x m = ofB (tyAny x m cs) m := rfl
def kL2 (x : T) (xs : List T) (m : Sto) : Rs (List T) := .ok (x :: xs) m
@[simp] theorem kL2_ap (x : T) (xs : List T) (m : Sto) : kL2 x xs m = .ok (x :: xs) m := rfl
noncomputable def kL (l : List ME) (e : Sl) (x : T) (m : Sto) : Rs (List T) := (denL l e m).bind (kL2 x)
@[simp] theorem kL_ap (l : List ME) (e : Sl) (x : T) (m : Sto) : kL l e x m = (denL l e m).bind (kL2 x) := rfl
@[simp] theorem den_var (i : Nat) (e : Sl) (m : Sto) : den (.var i) e m = slotT e[i]? m := by simp only [den] <;> rfl
@[simp] theorem den_cst (t : T) (e : Sl) (m : Sto) : den (.cst t) e m = .ok t m := by simp only [den]
@[simp] theorem den_lst (l : List ME) (e : Sl) (m : Sto) : den (.lst l) e m = (denL l e m).bind kLst := by simp only [den] <;> rfl
@[simp] theorem den_mut (a : ME) (e : Sl) (m : Sto) : den (.mut a) e m = toM (den a e m) := by simp only [den]
@[simp] theorem den_tup (l : List ME) (e : Sl) (m : Sto) : den (.tup l) e m = (denL l e m).bind kTup := by simp only [den] <;> rfl
@[simp] theorem den_bin (o : Operator) (a b : ME) (e : Sl) (m : Sto) : den (.bin o a b) e m = (den a e m).bind (kBin o b e) := by simp only [den] <;> rfl
@[simp] theorem den_neg (a : ME) (e : Sl) (m : Sto) : den (.neg a) e m = (den a e m).bind negT := by simp only [den] <;> rfl
@[simp] theorem den_cmp (o : CmpOp) (a b : ME) (e : Sl) (m : Sto) : den (.cmp o a b) e m = (den a e m).bind (kCmp o b e) := by simp only [den] <;> rfl
@[simp] theorem den_chn3 (o p q : CmpOp) (a b c d : ME) (e : Sl) (m : Sto) : den (.chn3 o p q a b c d) e m = (den a e m).bind (kTri o p q b c d e) := by simp only [den] <;> rfl
@[simp] theorem den_chn (o p : CmpOp) (a b c : ME) (e : Sl) (m : Sto) : den (.chn o p a b c) e m = (den a e m).bind (kChn o p b c e) := by simp only [den] <;> rfl
@[simp] theorem den_and (a b : ME) (e : Sl) (m : Sto) : den (.and a b) e m = (den a e m).bind (kAnd b e) := by simp only [den] <;> rfl
@[simp] theorem den_or (a b : ME) (e : Sl) (m : Sto) : den (.or a b) e m = (den a e m).bind (kOr b e) := by simp only [den] <;> rfl
@[simp] theorem den_not (a : ME) (e : Sl) (m : Sto) : den (.not a) e m = (den a e m).bind notT := by simp only [den] <;> rfl
@[simp] theorem den_ite (c a b : ME) (e : Sl) (m : Sto) : den (.ite c a b) e m = (den c e m).bind (kIte a b e) := by simp only [den] <;> rfl
@[simp] theorem den_idx (a b : ME) (e : Sl) (m : Sto) : den (.idx a b) e m = (den a e m).bind (kIdx b e) := by simp only [den] <;> rfl
@[simp] theorem den_slc (a : ME) (lo hi : Option ME) (e : Sl) (m : Sto) : den (.slc a lo hi) e m = (den a e m).bind (kSlc lo hi e) := by simp only [den] <;> rfl
noncomputable def vcO (o : Option Fn) (l : List ME) (e : Sl) (m : Sto) : Rs T := match o with
  | some F => (denL l e m).bind F
  | none => .bad
@[simp] theorem vcO_some (F : Fn) (l : List ME) (e : Sl) (m : Sto) : vcO (some F) l e m = (denL l e m).bind F := Eq.trans rfl rfl
noncomputable def kVc (hs : List Str) (l : List ME) (e : Sl) (f : T) (m : Sto) : Rs T := vcO (fnOf hs f) l e m
@[simp] theorem kVc_fn (hs : List Str) (l : List ME) (e : Sl) (x : Str) (m : Sto) : kVc hs l e (.fn (some x)) m = if hs.contains x then vcO (some fnNone) l e m else .bad := by
  unfold kVc fnOf
  dsimp only
  split <;> rfl
@[simp] theorem kVc_lam (hs : List Str) (l : List ME) (e : Sl) (m : Sto) : kVc hs l e (.fn none) m = vcO (some fnNone) l e m := rfl
noncomputable def kVc0 (fs : List (Nat × Nat)) (hs : List Str) (l : List ME) (e : Sl) (x : T) (m : Sto) : Rs T := (fldT fs x m).bind (kVc hs l e)
@[simp] theorem kVc0_ap (fs : List (Nat × Nat)) (hs : List Str) (l : List ME) (e : Sl) (x : T) (m : Sto) : kVc0 fs hs l e x m = (fldT fs x m).bind (kVc hs l e) := rfl
@[simp] theorem den_vcall (fs : List (Nat × Nat)) (hs : List Str) (o : ME) (l : List ME) (e : Sl) (m : Sto) : den (.vcall fs hs o l) e m = (den o e m).bind (kVc0 fs hs l e) := by simp only [den] <;> rfl
@[simp] theorem fnNone_ap (t : T) (m : Sto) : fnNone [t] m = .ok .non m := rfl
@[simp] theorem den_call (f : Fn) (l : List ME) (e : Sl) (m : Sto) : den (.call f l) e m = (denL l e m).bind f := by simp only [den] <;> rfl
@[simp] theorem den_mk (c : Nat) (f : Fn) (l : List ME) (e : Sl) (m : Sto) : den (.mk c f l) e m = (denL l e m).bind (mkT c f) := by simp only [den] <;> rfl
@[simp] theorem den_mkF (c : Nat) (f : Fn) (l : List ME) (e : Sl) (m : Sto) : den (.mkF c f l) e m = (denL l e m).bind (mkFT c f) := by simp only [den] <;> rfl
@[simp] theorem den_meth (fs : List (Nat × Fn)) (o : ME) (l : List ME) (e : Sl) (m : Sto) : den (.meth fs o l) e m = (den o e m).bind (kMeth fs l e) := by simp only [den] <;> rfl
@[simp] theorem den_fld (fs : List (Nat × Nat)) (o : ME) (e : Sl) (m : Sto) : den (.fld fs o) e m = (den o e m).bind (fldT fs) := by simp only [den] <;> rfl
@[simp] theorem den_bi (b : BI) (l : List ME) (e : Sl) (m : Sto) : den (.bi b l) e m = (denL l e m).bind (biT b) := by simp only [den] <;> rfl
@[simp] theorem den_isi (a : ME) (c : Ty) (e : Sl) (m : Sto) : den (.isi a c) e m = (den a e m).bind (kIsi c) := by simp only [den] <;> rfl
@[simp] theorem den_isn (a : ME) (cs : List Ty) (e : Sl) (m : Sto) : den (.isn a cs) e m = (den a e m).bind (kIsn cs) := by simp only [den] <;> rfl
def xisT (o : Option (Option T)) (css : List (List (Nat × Bool))) (m : Sto) : Rs T := match o with
  | some (some (.exn c _)) => ofB (xisAny c css) m
  | _ => .bad
@[simp] theorem xisT_exn (c : Nat) (xs : List T) (css : List (List (Nat × Bool))) (m : Sto) : xisT (some (some (.exn c xs))) css m = ofB (xisAny c css) m := rfl
@[simp] theorem den_xis (i : Nat) (css : List (List (Nat × Bool))) (e : Sl) (m : Sto) : den (.xis i css) e m = xisT e[i]? css m := by simp only [den] <;> rfl
def xflT (o : Option (Option T)) (cs : List Nat) (m : Sto) : Rs T := match o with
  | some (some (.exn c (t :: _))) => if cs.contains c then .ok t m else .bad
  | _ => .bad
@[simp] theorem xflT_exn (c : Nat) (t : T) (xs : List T) (cs : List Nat) (m : Sto) : xflT (some (some (.exn c (t :: xs)))) cs m = if cs.contains c then .ok t m else .bad := rfl
@[simp] theorem den_xfl (i : Nat) (cs : List Nat) (e : Sl) (m : Sto) : den (.xfl i cs) e m = xflT e[i]? cs m := by
  refine Eq.trans (b := match e[i]? with | some (some (.exn c (t :: _))) => if cs.contains c then Rs.ok t m else .bad | _ => .bad) (by simp only [den] <;> rfl) ?_
  rcases e[i]? with _ | _ | t <;> rfl
noncomputable def xcT (o : Option (Option T)) (f : Fn) (m : Sto) : Rs T := match o with
  | some (some (.exn c xs)) => (f [.exn c xs] m).nox
  | _ => .bad
@[simp] theorem xcT_exn (c : Nat) (xs : List T) (f : Fn) (m : Sto) : xcT (some (some (.exn c xs))) f m = (f [.exn c xs] m).nox := Eq.trans rfl rfl
@[simp] theorem den_xcall (f : Fn) (i : Nat) (e : Sl) (m : Sto) : den (.xcall f i) e m = xcT e[i]? f m := by simp only [den] <;> rfl
def strK (x : T) (k : Str → Rs T) : Rs T := match x with
  | .str a => k a
  | _ => .bad
@[simp] theorem strK_str (a : Str) (k : Str → Rs T) : strK (.str a) k = k a := Eq.trans rfl rfl
noncomputable def kSm2 (k : SM) (l : List ME) (e : Sl) (m : Sto) (a : Str) : Rs T := (denL l e m).bind (smT k a)
@[simp] theorem kSm2_ap (k : SM) (l : List ME) (e : Sl) (m : Sto) (a : Str) : kSm2 k l e m a = (denL l e m).bind (smT k a) := rfl
noncomputable def kSm (k : SM) (l : List ME) (e : Sl) (x : T) (m : Sto) : Rs T := strK x (kSm2 k l e m)
@[simp] theorem kSm_ap (k : SM) (l : List ME) (e : Sl) (x : T) (m : Sto) : kSm k l e x m = strK x (kSm2 k l e m) := rfl
@[simp] theorem den_sm (k : SM) (o : ME) (l : List ME) (e : Sl) (m : Sto) : den (.sm k o l) e m = (den o e m).bind (kSm k l e) := by simp only [den] <;> rfl
def ixK (l : List Nat) (m : Sto) : Rs T := match l with
  | i :: _ => .ok (.int (i : Nat)) m
  | [] => .bad
@[simp] theorem ixK_cons (i : Nat) (l : List Nat) (m : Sto) : ixK (i :: l) m = .ok (.int (i : Nat)) m := rfl
@[simp] theorem sm_index (a b : Str) (m : Sto) : smT .index a [.str b] m = ixK (Builtin.Str.occurrences a b 0 a.length 1) m := by
  unfold smT
  dsimp only
  cases Builtin.Str.occurrences a b 0 a.length 1 <;> rfl
@[simp] theorem sm_find (a b : Str) (m : Sto) : smT .find a [.str b] m = .ok (.int (Txt.find a b)) m := rfl
@[simp] theorem sm_starts (a b : Str) (m : Sto) : smT .starts a [.str b] m = .ok (.bl (Txt.startswith a b)) m := rfl
theorem sm_split {a b : Str} (m : Sto) (h : (b.length == 0) = false ∧ a.length ≤ 16000000 ∧ okS (Txt.split a b) = true ∧ (Txt.split a b).length ≤ 16777216) : smT .split a [.str b] m = .ok (.lst ((Txt.split a b).map .str)) m := if_pos h
theorem strsOf_map : ∀ ys : List Str, strsOf (ys.map .str) = some ys
  | [] => rfl
  | y :: ys => by
    show (strsOf (ys.map .str)).map (y :: ·) = _
    rw [strsOf_map ys]
    rfl
theorem sm_join {a : Str} {ys : List Str} (m : Sto) (h : (ys.map (·.length)).sum + ys.length * a.length ≤ 16777216 ∧ (Txt.join a ys).length ≤ 16777216) : smT .join a [.lst (ys.map .str)] m = .ok (.str (Txt.join a ys)) m := by
  unfold smT
  dsimp only
  rw [seqOf_lst]
  dsimp only
  rw [strsOf_map]
  exact if_pos h
@[simp] theorem denL_nil (e : Sl) (m : Sto) : denL [] e m = .ok [] m := by simp only [denL]
@[simp] theorem denL_cons (a : ME) (l : List ME) (e : Sl) (m : Sto) : denL (a :: l) e m = (den a e m).bind (kL l e) := by simp only [denL] <;> rfl
@[simp] theorem denO_none (e : Sl) (m : Sto) : denO none e m = .ok none m := by simp only [denO]
@[simp] theorem denO_some (a : ME) (e : Sl) (m : Sto) : denO (some a) e m = (den a e m).bind intO := by simp only [denO] <;> rfl
def boolC (x : T) (m : Sto) (k : Sto → Rs Bool) : Rs Bool := match x with
  | .bl true => k m
  | .bl false => .ok false m
  | _ => .bad
@[simp] theorem boolC_one (p : Bool) (m : Sto) : boolC (.bl p) m (fun m' => .ok true m') = .ok p m := by cases p <;> rfl
@[simp] theorem boolC_true (m : Sto) (k : Sto → Rs Bool) : boolC (.bl true) m k = k m := Eq.trans rfl rfl
@[simp] theorem boolC_false (m : Sto) (k : Sto → Rs Bool) : boolC (.bl false) m k = .ok false m := rfl
noncomputable def kC (l : List ME) (e : Sl) (x : T) (m : Sto) : Rs Bool := boolC x m (denC l e)
@[simp] theorem kC_ap (l : List ME) (e : Sl) (x : T) (m : Sto) : kC l e x m = boolC x m (denC l e) := rfl
@[simp] theorem boolC_nil (p : Bool) (e : Sl) (m : Sto) : boolC (.bl p) m (denC [] e) = .ok p m := by cases p <;> simp only [boolC, denC]
@[simp] theorem denC_nil (e : Sl) (m : Sto) : denC [] e m = .ok true m := by simp only [denC]
@[simp] theorem denC_cons (a : ME) (l : List ME) (e : Sl) (m : Sto) : denC (a :: l) e m = (den a e m).bind (kC l e) := by simp only [denC] <;> rfl
def wkO (o : Option Wk) (m : Sto) : Rs Wk := match o with
  | some w => .ok w m
  | none => .bad
@[simp] theorem wkO_some (w : Wk) (m : Sto) : wkO (some w) m = .ok w m := rfl
def kSeq (x : T) (m : Sto) : Rs Wk := wkO (walkT x m) m
@[simp] theorem kSeq_ap (x : T) (m : Sto) : kSeq x m = wkO (walkT x m) m := rfl
@[simp] theorem denI_seq (a : ME) (e : Sl) (m : Sto) : denI (.seq a) e m = (den a e m).bind kSeq := by simp only [denI] <;> rfl
def rng1T (x : T) (m : Sto) : Rs Wk := match x with
  | .int j => if bnd62 j ∧ j ≤ 16777216 then .ok ⟨rngL 0 j, none⟩ m else .bad
  | _ => .bad
theorem rng1T_int {j : Int} (m : Sto) (h : -1000000 ≤ j) (h2 : j ≤ 16777216) : rng1T (.int j) m = .ok ⟨rngL 0 j, none⟩ m := by
  show (if bnd62 j ∧ j ≤ 16777216 then _ else _) = _
  rw [if_pos]
  unfold bnd62
  omega
@[simp] theorem denI_rng1 (a : ME) (e : Sl) (m : Sto) : denI (.rng1 a) e m = (den a e m).bind rng1T := by simp only [denI] <;> rfl
def rng2T (x y : T) (m : Sto) : Rs Wk := match x, y with
  | .int i, .int j => if bnd62 i ∧ bnd62 j ∧ j - i ≤ 16777216 then .ok ⟨rngL i j, none⟩ m else .bad
  | _, _ => .bad
@[simp] theorem rng2T_int (i j : Int) (m : Sto) : rng2T (.int i) (.int j) m = if bnd62 i ∧ bnd62 j ∧ j - i ≤ 16777216 then .ok ⟨rngL i j, none⟩ m else .bad := rfl
noncomputable def kRng2 (b : ME) (e : Sl) (x : T) (m : Sto) : Rs Wk := (den b e m).bind (rng2T x)
@[simp] theorem kRng2_ap (b : ME) (e : Sl) (x : T) (m : Sto) : kRng2 b e x m = (den b e m).bind (rng2T x) := rfl
@[simp] theorem denI_rng2 (a b : ME) (e : Sl) (m : Sto) : denI (.rng2 a b) e m = (den a e m).bind (kRng2 b e) := by simp only [denI] <;> rfl
def enmT (x : T) (m : Sto) : Rs Wk := match x with
  | .lst xs => .ok ⟨enmL 0 xs, none⟩ m
  | .hd n => match m[n]? with
    | some (.lst xs) => .ok ⟨enmL 0 xs, some (.e n)⟩ m
    | _ => .bad
  | _ => .bad
@[simp] theorem enmT_lst (xs : List T) (m : Sto) : enmT (.lst xs) m = .ok ⟨enmL 0 xs, none⟩ m := rfl
@[simp] theorem denI_enm (a : ME) (e : Sl) (m : Sto) : denI (.enm a) e m = (den a e m).bind enmT := by simp only [denI] <;> rfl
def zipT (x y : T) (m : Sto) : Rs Wk := match x, y with
  | .lst xs, .lst ys => .ok ⟨zipL xs ys, none⟩ m
  | .hd n, .lst ys => match m[n]? with
    | some (.lst xs) => .ok ⟨zipL xs ys, some (.z n ys)⟩ m
    | _ => .bad
  | _, _ => .bad
@[simp] theorem zipT_lst (xs ys : List T) (m : Sto) : zipT (.lst xs) (.lst ys) m = .ok ⟨zipL xs ys, none⟩ m := rfl
noncomputable def kZip (b : ME) (e : Sl) (x : T) (m : Sto) : Rs Wk := (den b e m).bind (zipT x)
@[simp] theorem kZip_ap (b : ME) (e : Sl) (x : T) (m : Sto) : kZip b e x m = (den b e m).bind (zipT x) := rfl
def rng3T (x y w : T) (m : Sto) : Rs Wk := match x, y, w with
  | .int i, .int j, .int c => if rngOk i j c = true then .ok ⟨rngC i j c, none⟩ m else .bad
  | _, _, _ => .bad
noncomputable def kRng3b (c : ME) (e : Sl) (x y : T) (m : Sto) : Rs Wk := (den c e m).bind (rng3T x y)
@[simp] theorem kRng3b_ap (c : ME) (e : Sl) (x y : T) (m : Sto) : kRng3b c e x y m = (den c e m).bind (rng3T x y) := rfl
noncomputable def kRng3 (b c : ME) (e : Sl) (x : T) (m : Sto) : Rs Wk := (den b e m).bind (kRng3b c e x)
@[simp] theorem kRng3_ap (b c : ME) (e : Sl) (x : T) (m : Sto) : kRng3 b c e x m = (den b e m).bind (kRng3b c e x) := rfl
@[simp] theorem denI_rng3 (a b c : ME) (e : Sl) (m : Sto) : denI (.rng3 a b c) e m = (den a e m).bind (kRng3 b c e) := by simp only [denI] <;> rfl
@[simp] theorem denI_zip (a b : ME) (e : Sl) (m : Sto) : denI (.zip a b) e m = (den a e m).bind (kZip b e) := by simp only [denI] <;> rfl
/-! ### values -/
@[simp] theorem add_int (i j : Int) (m : Sto) : binT .Add (.int i) (.int j) m = .ok (.int (i + j)) m := rfl
@[simp] theorem sub_int (i j : Int) (m : Sto) : binT .Sub (.int i) (.int j) m = .ok (.int (i - j)) m := rfl
theorem mul_txt {a : Str} {k : Int} (m : Sto) (h : 2 ≤ k ∧ k ≤ 1000 ∧ 1 ≤ a.length ∧ a.length ≤ 1000) : binT .Mult (.str a) (.int k) m = .ok (.str (repS a k.toNat)) m := if_pos h
theorem mul_int {i j : Int} (m : Sto) (h : mulOk i j) : binT .Mult (.int i) (.int j) m = .ok (.int (i * j)) m := by
  show (if mulOk i j then _ else _) = _
  rw [if_pos h]
theorem div_int {i j : Int} (m : Sto) (h : divOk j) : binT .FloorDiv (.int i) (.int j) m = .ok (.int (i / j)) m := by
  show (if divOk j then _ else _) = _
  rw [if_pos h]
theorem mod_int {i j : Int} (m : Sto) (h : 0 < j) : binT .Mod (.int i) (.int j) m = .ok (.int (i % j)) m := by
  show (if 0 < j then _ else _) = _
  rw [if_pos h]
theorem pow_int {i j : Int} (m : Sto) (h : powOk i j) : binT .Pow (.int i) (.int j) m = .ok (.int (i ^ j.toNat)) m := by
  show (if powOk i j then _ else _) = _
  rw [if_pos h]
theorem shr_int {i j : Int} (m : Sto) (h : 0 ≤ j) : binT .RShift (.int i) (.int j) m = .ok (.int (i / 2 ^ j.toNat)) m := by
  show (if 0 ≤ j then _ else _) = _
  rw [if_pos h]
@[simp] theorem and_int (i j : Int) (m : Sto) : binT .BitAnd (.int i) (.int j) m = .ok (.int (Builtin.bitAnd i j)) m := rfl
theorem add_str {a b : Str} (m : Sto) (h : a.length + b.length ≤ 16777216) : binT .Add (.str a) (.str b) m = .ok (.str (a ++ b)) m := by
  show (if a.length + b.length ≤ 16777216 then _ else _) = _
  rw [if_pos h]
theorem add_lst {a b : List T} (m : Sto) (h : a.length + b.length ≤ 16777216) : binT .Add (.lst a) (.lst b) m = .ok (.lst (a ++ b)) m := by
  show (if a.length + b.length ≤ 16777216 then _ else _) = _
  rw [if_pos h]
theorem mulOk_r {i j : Int} (h1 : -(2 ^ 64) < j) (h2 : j < 2 ^ 64) : mulOk i j := .inr (.inl ⟨h1, h2⟩)
theorem mulOk_l {i j : Int} (h1 : -(2 ^ 64) < i) (h2 : i < 2 ^ 64) : mulOk i j := .inl ⟨h1, h2⟩
theorem sm_le {i j : Int} (h1 : sm j) (h2 : -j ≤ i) (h3 : i ≤ j) : sm i := by
  unfold sm at *
  generalize 2 ^ 1000 = N at *
  omega
theorem divOk_s {j : Int} (h1 : 0 < j) (h2 : j < 2 ^ 200) : divOk j := by
  refine ⟨h1, sm_le (j := 2 ^ 200) (by decide +kernel) (by omega) (by omega)⟩
@[simp] theorem cmp_lt (i j : Int) (m : Sto) : cmpT .Lt (.int i) (.int j) m = .ok (.bl (decide (i < j))) m := rfl
@[simp] theorem cmp_gt (i j : Int) (m : Sto) : cmpT .Gt (.int i) (.int j) m = .ok (.bl (decide (j < i))) m := rfl
@[simp] theorem cmp_le (i j : Int) (m : Sto) : cmpT .LtE (.int i) (.int j) m = .ok (.bl (decide (i ≤ j))) m := rfl
@[simp] theorem cmp_le3 (a b c d e f : Int) (m : Sto) : cmpT .LtE (.tup [.int a, .int b, .int c]) (.tup [.int d, .int e, .int f]) m = .ok (.bl (if a = d then (if b = e then decide (c ≤ f) else decide (b ≤ e)) else decide (a ≤ d))) m := by
  have h : leV [a, b, c] [d, e, f] = if a = d then (if b = e then decide (c ≤ f) else decide (b ≤ e)) else decide (a ≤ d) := by
    unfold leV
    by_cases q1 : a = d
    · by_cases q2 : b = e
      · by_cases q3 : c = f
        · simp [Ob.lexAt, q1, q2, q3]
        · simp [Ob.lexAt, q1, q2, q3]
      · simp [Ob.lexAt, q1, q2]
    · simp [Ob.lexAt, q1]
  rw [← h]
  rfl
@[simp] theorem cmp_ge (i j : Int) (m : Sto) : cmpT .GtE (.int i) (.int j) m = .ok (.bl (decide (j ≤ i))) m := rfl
@[simp] theorem cmp_eq (i j : Int) (m : Sto) : cmpT .Eq (.int i) (.int j) m = .ok (.bl (decide (i = j))) m := rfl
@[simp] theorem cmp_ne (i j : Int) (m : Sto) : cmpT .NotEq (.int i) (.int j) m = .ok (.bl (!decide (i = j))) m := rfl
@[simp] theorem cmp_eqS (i j : Str) (m : Sto) : cmpT .Eq (.str i) (.str j) m = .ok (.bl (decide (i = j))) m := rfl
@[simp] theorem cmp_neS (i j : Str) (m : Sto) : cmpT .NotEq (.str i) (.str j) m = .ok (.bl (!decide (i = j))) m := rfl
theorem cmp_is (x y : T) (m : Sto) : cmpT .Is x y m = ofB (isT x y) m := by
  show (match isT x y with | some b => _ | none => _) = _
  cases isT x y <;> rfl
theorem cmp_isnot (x y : T) (m : Sto) : cmpT .IsNot x y m = ofB ((isT x y).map (!·)) m := by
  show (match (isT x y).map (!·) with | some b => _ | none => _) = _
  cases isT x y <;> rfl
@[simp] theorem isT_non : isT .non .non = some true := rfl
@[simp] theorem isT_int (i : Int) : isT (.int i) .non = some false := rfl
@[simp] theorem isT_tup (xs : List T) : isT (.tup xs) .non = some false := rfl
@[simp] theorem isT_lst (xs : List T) : isT (.lst xs) .non = some false := rfl
@[simp] theorem isT_str (s : Str) : isT (.str s) .non = some false := rfl
@[simp] theorem isT_obj (c : Nat) (xs : List T) : isT (.obj c xs) .non = some false := rfl
@[simp] theorem isT_hd (n : Nat) : isT (.hd n) .non = some false := rfl
@[simp] theorem isT_blN (b : Bool) : isT (.bl b) .non = some false := rfl
@[simp] theorem isT_bl (b c : Bool) : isT (.bl b) (.bl c) = some (decide (b = c)) := rfl
@[simp] theorem lstOf_lst (m : Sto) (xs : List T) : lstOf m (.lst xs) = some xs := rfl
def atT (o : Option T) (m : Sto) : Rs T := match o with
  | some t => .ok t m
  | none => .bad
@[simp] theorem atT_some (t : T) (m : Sto) : atT (some t) m = .ok t m := rfl
@[simp] theorem idx_tup (xs : List T) (i : Int) (m : Sto) : idxT (.tup xs) (.int i) m = atT (L2.atI xs i) m := rfl
@[simp] theorem idx_lst (xs : List T) (i : Int) (m : Sto) : idxT (.lst xs) (.int i) m = atT (L2.atI xs i) m := rfl
theorem idx_scr (xs : List Int) (i : Int) (m : Sto) : idxT (.scr xs) (.int i) m = atT ((L2.atI xs i).map .int) m := by
  show (match L2.atI xs i with | some c => _ | none => _) = _
  cases L2.atI xs i <;> rfl
theorem idx_hd {n : Nat} {xs : List T} {m : Sto} (h : m[n]? = some (.lst xs)) (i : Int) : idxT (.hd n) (.int i) m = atT (L2.atI xs i) m := by
  show (match seqOf m (.hd n) with | some xs => _ | none => _) = _
  have e : seqOf m (.hd n) = some xs := by show (match m[n]? with | some (.lst xs) => some xs | _ => none) = _; rw [h]
  rw [e]
  rfl
theorem idx_str {s : Str} {c : Nat} {i : Int} (m : Sto) (h : L2.atI s.cps.toList i = some c) : idxT (.str s) (.int i) m = .ok (.str ⟨#[c]⟩) m := by
  show (match L2.atI s.cps.toList i with | some c => _ | none => _) = _
  rw [h]
@[simp] theorem slc_tup (xs : List T) (lo hi : Option Int) (m : Sto) : slcT (.tup xs) lo hi m = .ok (.tup (cutT xs lo hi)) m := rfl
@[simp] theorem slc_lst (xs : List T) (lo hi : Option Int) (m : Sto) : slcT (.lst xs) lo hi m = .ok (.lst (cutT xs lo hi)) m := rfl
@[simp] theorem slc_scr (xs : List Int) (lo hi : Option Int) (m : Sto) : slcT (.scr xs) lo hi m = .ok (.lst ((cutT xs lo hi).map .int)) m := rfl
@[simp] theorem slc_str (a : Str) (lo hi : Option Int) (m : Sto) : slcT (.str a) lo hi m = .ok (.str ⟨(cutT a.cps.toList lo hi).toArray⟩) m := rfl
@[simp] theorem len_tup (xs : List T) (m : Sto) : biT .len [.tup xs] m = .ok (.int xs.length) m := rfl
@[simp] theorem len_lst (xs : List T) (m : Sto) : biT .len [.lst xs] m = .ok (.int xs.length) m := rfl
@[simp] theorem len_scr (xs : List Int) (m : Sto) : biT .len [.scr xs] m = .ok (.int xs.length) m := rfl
@[simp] theorem len_str (s : Str) (m : Sto) : biT .len [.str s] m = .ok (.int s.length) m := rfl
@[simp] theorem bi_abs (i : Int) (m : Sto) : biT .abs [.int i] m = .ok (.int (if i < 0 then -i else i)) m := rfl
@[simp] theorem bi_max (i j : Int) (m : Sto) : biT .max [.int i, .int j] m = .ok (.int (if j > i then j else i)) m := rfl
@[simp] theorem bi_min (i j : Int) (m : Sto) : biT .min [.int i, .int j] m = .ok (.int (if j < i then j else i)) m := rfl
@[simp] theorem bi_int (i : Int) (m : Sto) : biT .int [.int i] m = .ok (.int i) m := rfl
@[simp] theorem bi_strS (a : Str) (m : Sto) : biT .str [.str a] m = .ok (.str a) m := rfl
@[simp] theorem bi_strN (m : Sto) : biT .str [.non] m = .ok (.str "None") m := rfl
theorem bi_intT {a : Str} {n : Int} (m : Sto) (hl : a.length ≤ 640) (h : PySem.intText? a = some n) : biT .int [.str a] m = .ok (.int n) m := by
  show (if a.length ≤ 640 then (match PySem.intText? a with
    | some n => (Rs.ok (T.int n) m : Rs T)
    | none => Rs.bad) else Rs.bad) = _
  rw [if_pos hl, h]
@[simp] theorem bi_intB (b : Bool) (m : Sto) : biT .int [.bl b] m = .ok (.int (if b then 1 else 0)) m := rfl
@[simp] theorem bi_list (xs : List T) (m : Sto) : biT .list [.lst xs] m = .ok (.lst xs) m := rfl
@[simp] theorem bi_listT (xs : List T) (m : Sto) : biT .list [.tup xs] m = .ok (.lst xs) m := rfl
@[simp] theorem bi_tupleL (xs : List T) (m : Sto) : biT .tuple [.lst xs] m = .ok (.tup xs) m := rfl
@[simp] theorem bi_tupleT (xs : List T) (m : Sto) : biT .tuple [.tup xs] m = .ok (.tup xs) m := rfl
theorem bls_map (bs : List Bool) : bls (bs.map .bl) = some bs := by
  induction bs with
  | nil => rfl
  | cons b bs ih => show (bls (bs.map .bl)).map (b :: ·) = _; rw [ih]; rfl
@[simp] theorem bls_nil : bls [] = some [] := rfl
@[simp] theorem bls_cons (b : Bool) (xs : List T) : bls (.bl b :: xs) = (bls xs).map (b :: ·) := rfl
def srtK (o : Option (List T)) (m : Sto) : Rs T := match o with
  | some ys => .ok (.lst ys) m
  | none => .bad
@[simp] theorem srtK_some (ys : List T) (m : Sto) : srtK (some ys) m = .ok (.lst ys) m := rfl
@[simp] theorem bi_sorted (xs : List T) (m : Sto) : biT .sorted [.lst xs] m = srtK (srtT xs) m := by
  unfold biT srtK
  dsimp only
  rw [lstOf_lst] <;> (try dsimp only) <;> (try (cases srtT xs <;> rfl))
theorem bi_str {i : Int} (m : Sto) (h : i.natAbs.log2 < 1920 ∧ (Str.ofString (toString i)).length ≤ 16777216) : biT .str [.int i] m = .ok (.str (toString i)) m := if_pos h
def allO (o : Option (List Bool)) (f : List Bool → Bool) (m : Sto) : Rs T := match o with
  | some bs => .ok (.bl (f bs)) m
  | none => .bad
@[simp] theorem allO_some (bs : List Bool) (f : List Bool → Bool) (m : Sto) : allO (some bs) f m = .ok (.bl (f bs)) m := rfl
@[simp] theorem bi_all (xs : List T) (m : Sto) : biT .all [.lst xs] m = allO (bls xs) (fun bs => bs.all id) m := by
  show (match bls xs with | some bs => _ | none => _) = _
  cases bls xs <;> rfl
@[simp] theorem bi_any (xs : List T) (m : Sto) : biT .any [.lst xs] m = allO (bls xs) (fun bs => bs.any id) m := by
  show (match bls xs with | some bs => _ | none => _) = _
  cases bls xs <;> rfl
@[simp] theorem tyIs_non (m : Sto) (c : Ty) : tyIs .non m c = some false := rfl
@[simp] theorem tyIs_bl (b : Bool) (m : Sto) (c : Ty) : tyIs (.bl b) m c = some (match c with | .int => true | .bool => true | _ => false) := rfl
@[simp] theorem tyIs_int (b : Int) (m : Sto) (c : Ty) : tyIs (.int b) m c = some (match c with | .int => true | _ => false) := rfl
@[simp] theorem tyIs_str (b : Str) (m : Sto) (c : Ty) : tyIs (.str b) m c = some (match c with | .str => true | _ => false) := rfl
@[simp] theorem tyIs_lst (b : List T) (m : Sto) (c : Ty) : tyIs (.lst b) m c = some (match c with | .list => true | _ => false) := rfl
@[simp] theorem tyIs_tup (b : List T) (m : Sto) (c : Ty) : tyIs (.tup b) m c = some (match c with | .tuple => true | _ => false) := rfl
@[simp] theorem clsOf_obj (m : Sto) (c : Nat) (xs : List T) : clsOf m (.obj c xs) = some (c, xs) := rfl
def fldO (fs : List (Nat × Nat)) (o : Option (Nat × List T)) (m : Sto) : Rs T := match o with
  | some (c, xs) => match fs.lookup c with
    | some i => atT xs[i]? m
    | none => .bad
  | none => .bad
@[simp] theorem fldO_some (fs : List (Nat × Nat)) (c : Nat) (xs : List T) (m : Sto) : fldO fs (some (c, xs)) m = (match fs.lookup c with
    | some i => atT xs[i]? m
    | none => .bad) := rfl
@[simp] theorem fldT_eq (fs : List (Nat × Nat)) (t : T) (m : Sto) : fldT fs t m = fldO fs (clsOf m t) m := by
  show (match clsOf m t with | some (c, xs) => _ | none => _) = fldO fs (clsOf m t) m
  rcases clsOf m t with _ | ⟨c, xs⟩
  · rfl
  · show (match fs.lookup c with | some i => _ | none => _) = (match fs.lookup c with | some i => atT xs[i]? m | none => .bad)
    rcases fs.lookup c with _ | i
    · rfl
    · show (match xs[i]? with | some t => _ | none => _) = atT xs[i]? m
      cases xs[i]? <;> rfl
@[simp] theorem methF_obj (fs : List (Nat × Fn)) (c : Nat) (xs : List T) (m : Sto) : methF fs (.obj c xs) m = fs.lookup c := rfl
theorem methF_hd {fs : List (Nat × Fn)} {n c : Nat} {xs : List T} {m : Sto} (h : m[n]? = some (.ins c xs)) : methF fs (.hd n) m = fs.lookup c := by
  unfold methF
  have e : clsOf m (.hd n) = some (c, xs) := by show (match m[n]? with | some (.ins c xs) => some (c, xs) | _ => none) = _; rw [h]
  rw [e]
theorem clsOf_hd {n c : Nat} {xs : List T} {m : Sto} (h : m[n]? = some (.ins c xs)) : clsOf m (.hd n) = some (c, xs) := by
  show (match m[n]? with | some (.ins c xs) => some (c, xs) | _ => none) = _
  rw [h]
/-! ### statements -/
def RS.bnd (o : Option Sl) (m : Sto) : RS := match o with
  | some e => .nx e m
  | none => .bad
@[simp] theorem bnd_some (e : Sl) (m : Sto) : RS.bnd (some e) m = .nx e m := rfl
def lmS (k : LM) (t : T) (e : Sl) (m : Sto) (f : Sto → Rs (List T)) : RS := match t with
  | .hd n => match m[n]? with
    | some (.lst _) => (f m).st e fun ts m2 => match m2[n]? with
      | some (.lst xs) => match lmT k xs ts m2 with
        | some ys => .nx e (m2.set n (.lst ys))
        | none => .bad
      | _ => .bad
    | _ => .bad
  | _ => .bad
def stoO (o : Option Sto) (e : Sl) : RS := match o with
  | some m => .nx e m
  | none => .bad
@[simp] theorem stoO_some (m : Sto) (e : Sl) : stoO (some m) e = .nx e m := rfl
def kSet (i : Nat) (e : Sl) (x : T) (m : Sto) : RS := .nx (e.set i (some x)) m
@[simp] theorem kSet_ap (i : Nat) (e : Sl) (x : T) (m : Sto) : kSet i e x m = .nx (e.set i (some x)) m := rfl
def kBnd (l : List Nat) (e : Sl) (x : T) (m : Sto) : RS := RS.bnd (bindT (.many l) x e) m
@[simp] theorem kBnd_ap (l : List Nat) (e : Sl) (x : T) (m : Sto) : kBnd l e x m = RS.bnd (bindT (.many l) x e) m := rfl
def kSub3 (e : Sl) (x t y : T) (m : Sto) : RS := subS t y x e m
@[simp] theorem kSub3_ap (e : Sl) (x t y : T) (m : Sto) : kSub3 e x t y m = subS t y x e m := rfl
noncomputable def kSub2 (k : ME) (e : Sl) (x t : T) (m : Sto) : RS := (den k e m).st e (kSub3 e x t)
@[simp] theorem kSub2_ap (k : ME) (e : Sl) (x t : T) (m : Sto) : kSub2 k e x t m = (den k e m).st e (kSub3 e x t) := rfl
noncomputable def kSub (o k : ME) (e : Sl) (x : T) (m : Sto) : RS := (den o e m).st e (kSub2 k e x)
@[simp] theorem kSub_ap (o k : ME) (e : Sl) (x : T) (m : Sto) : kSub o k e x m = (den o e m).st e (kSub2 k e x) := rfl
noncomputable def kLm (k : LM) (l : List ME) (e : Sl) (t : T) (m : Sto) : RS := lmS k t e m (denL l e)
@[simp] theorem kLm_ap (k : LM) (l : List ME) (e : Sl) (t : T) (m : Sto) : kLm k l e t m = lmS k t e m (denL l e) := rfl
def kFset2 (fs : List (Nat × Nat)) (e : Sl) (x t : T) (m : Sto) : RS := stoO (fsetT fs t x m) e
@[simp] theorem kFset2_ap (fs : List (Nat × Nat)) (e : Sl) (x t : T) (m : Sto) : kFset2 fs e x t m = stoO (fsetT fs t x m) e := rfl
noncomputable def kFset (fs : List (Nat × Nat)) (o : ME) (e : Sl) (x : T) (m : Sto) : RS := (den o e m).st e (kFset2 fs e x)
@[simp] theorem kFset_ap (fs : List (Nat × Nat)) (o : ME) (e : Sl) (x : T) (m : Sto) : kFset fs o e x m = (den o e m).st e (kFset2 fs e x) := rfl
noncomputable def kFsq (gs : List (Nat × Nat)) (e : Sl) (w t2 : T) (m : Sto) : RS := stoO (fsetT gs t2 w m) e
@[simp] theorem kFsq_ap (gs : List (Nat × Nat)) (e : Sl) (w t2 : T) (m : Sto) : kFsq gs e w t2 m = stoO (fsetT gs t2 w m) e := rfl
noncomputable def fsN (o : Option Sto) (q : ME) (e : Sl) (k : T → Sto → RS) : RS := match o with
  | some m3 => (den q e m3).st e k
  | none => .bad
@[simp] theorem fsN_some (m3 : Sto) (q : ME) (e : Sl) (k : T → Sto → RS) : fsN (some m3) q e k = (den q e m3).st e k := rfl
noncomputable def kFs1 (fs gs : List (Nat × Nat)) (q : ME) (e : Sl) (u w t : T) (m : Sto) : RS := fsN (fsetT fs t u m) q e (kFsq gs e w)
@[simp] theorem kFs1_ap (fs gs : List (Nat × Nat)) (q : ME) (e : Sl) (u w t : T) (m : Sto) : kFs1 fs gs q e u w t m = fsN (fsetT fs t u m) q e (kFsq gs e w) := rfl
noncomputable def kFs0 (fs gs : List (Nat × Nat)) (o q : ME) (e : Sl) (x : T) (m : Sto) : RS := match x with
  | .tup [u, w] => (den o e m).st e (kFs1 fs gs q e u w)
  | _ => .bad
@[simp] theorem kFs0_tup (fs gs : List (Nat × Nat)) (o q : ME) (e : Sl) (u w : T) (m : Sto) : kFs0 fs gs o q e (.tup [u, w]) m = (den o e m).st e (kFs1 fs gs q e u w) := rfl
@[simp] theorem denS_fset2 (fs gs : List (Nat × Nat)) (o q a : ME) (e : Sl) (m : Sto) : denS (.fset2 fs o gs q a) e m = (den a e m).st e (kFs0 fs gs o q e) := by simp only [denS] <;> rfl
def kExpr (e : Sl) (_ : T) (m : Sto) : RS := .nx e m
@[simp] theorem kExpr_ap (e : Sl) (x : T) (m : Sto) : kExpr e x m = .nx e m := rfl
noncomputable def kIf (a b : List MS) (e : Sl) (x : T) (m : Sto) : RS := RS.tif x (denSs a e m) (denSs b e m)
@[simp] theorem kIf_ap (a b : List MS) (e : Sl) (x : T) (m : Sto) : kIf a b e x m = RS.tif x (denSs a e m) (denSs b e m) := rfl
def kRse (c : Nat) (e : Sl) (xs : List T) (m : Sto) : RS := .exc c xs e m
@[simp] theorem kRse_ap (c : Nat) (e : Sl) (xs : List T) (m : Sto) : kRse c e xs m = .exc c xs e m := rfl
@[simp] theorem denS_set (i : Nat) (a : ME) (e : Sl) (m : Sto) : denS (.set i a) e m = (den a e m).st e (kSet i e) := by simp only [denS] <;> rfl
def augK (i : Nat) (e : Sl) (x : Int) (y : T) (m : Sto) : RS := match y with
  | .int j => .nx (e.set i (some (.int (x + j)))) m
  | _ => .bad
@[simp] theorem augK_int (i : Nat) (e : Sl) (x j : Int) (m : Sto) : augK i e x (.int j) m = .nx (e.set i (some (.int (x + j)))) m := rfl
def augO (o : Option (Option T)) (k : Int → RS) : RS := match o with
  | some (some (.int x)) => k x
  | _ => .bad
@[simp] theorem augO_int (x : Int) (k : Int → RS) : augO (some (some (.int x))) k = k x := Eq.trans rfl rfl
noncomputable def kAug (i : Nat) (a : ME) (e : Sl) (m : Sto) (x : Int) : RS := (den a e m).st e (augK i e x)
@[simp] theorem kAug_ap (i : Nat) (a : ME) (e : Sl) (m : Sto) (x : Int) : kAug i a e m x = (den a e m).st e (augK i e x) := rfl
@[simp] theorem denS_aug (i : Nat) (a : ME) (e : Sl) (m : Sto) : denS (.aug i a) e m = augO e[i]? (kAug i a e m) := by simp only [denS] <;> rfl
@[simp] theorem denS_bnd (l : List Nat) (a : ME) (e : Sl) (m : Sto) : denS (.bnd l a) e m = (den a e m).st e (kBnd l e) := by simp only [denS] <;> rfl
@[simp] theorem denS_sub (o k a : ME) (e : Sl) (m : Sto) : denS (.sub o k a) e m = (den a e m).st e (kSub o k e) := by simp only [denS] <;> rfl
@[simp] theorem denS_lm (k : LM) (o : ME) (l : List ME) (e : Sl) (m : Sto) : denS (.lm k o l) e m = (den o e m).st e (kLm k l e) := by simp only [denS] <;> rfl
def kFaug3 (fs : List (Nat × Nat)) (e : Sl) (t : T) (c : Option Nat) (x y : T) (m : Sto) : RS := faugK fs e t c x y m
noncomputable def kFaug2 (fs : List (Nat × Nat)) (a : ME) (e : Sl) (t : T) (c : Option Nat) (x : T) (m : Sto) : RS := (den a e m).st e (kFaug3 fs e t c x)
noncomputable def kFaug1 (fs : List (Nat × Nat)) (a : ME) (e : Sl) (t : T) (m : Sto) : RS := (fldT fs t m).st e (kFaug2 fs a e t (clsN m t))
@[simp] theorem kFaug3_ap (fs : List (Nat × Nat)) (e : Sl) (t : T) (c : Option Nat) (i j : Int) (m : Sto) : kFaug3 fs e t c (.int i) (.int j) m = if clsN m t = c then stoO (fsetT fs t (.int (i + j)) m) e else .bad := rfl
@[simp] theorem kFaug2_ap (fs : List (Nat × Nat)) (a : ME) (e : Sl) (t : T) (c : Option Nat) (x : T) (m : Sto) : kFaug2 fs a e t c x m = (den a e m).st e (kFaug3 fs e t c x) := rfl
@[simp] theorem kFaug1_ap (fs : List (Nat × Nat)) (a : ME) (e : Sl) (t : T) (m : Sto) : kFaug1 fs a e t m = (fldT fs t m).st e (kFaug2 fs a e t (clsN m t)) := rfl
@[simp] theorem denS_faug (fs : List (Nat × Nat)) (o a : ME) (e : Sl) (m : Sto) : denS (.faug fs o a) e m = (den o e m).st e (kFaug1 fs a e) := by simp only [denS] <;> rfl
@[simp] theorem denS_fset (fs : List (Nat × Nat)) (o a : ME) (e : Sl) (m : Sto) : denS (.fset fs o a) e m = (den a e m).st e (kFset fs o e) := by simp only [denS] <;> rfl
@[simp] theorem denS_expr (a : ME) (e : Sl) (m : Sto) : denS (.expr a) e m = (den a e m).st e (kExpr e) := by simp only [denS] <;> rfl
@[simp] theorem denS_ret (a : ME) (e : Sl) (m : Sto) : denS (.ret a) e m = (den a e m).st e RS.rt := by simp only [denS] <;> rfl
@[simp] theorem denS_retN (e : Sl) (m : Sto) : denS .retN e m = .rt .non m := by simp only [denS]
@[simp] theorem denS_ite (c : ME) (a b : List MS) (e : Sl) (m : Sto) : denS (.ite c a b) e m = (den c e m).st e (kIf a b e) := by simp only [denS] <;> rfl
/-- a loop's turn -/
noncomputable def turnS (g : Tg) (b : List MS) (w : Wk) (x : T) (e : Sl) (m : Sto) : RS := guardS w (match bindT g x e with
  | some e2 => denSs b e2 m
  | none => .bad)
noncomputable def kFor (g : Tg) (b : List MS) (e : Sl) (w : Wk) (m : Sto) : RS := forL (turnS g b w) w.xs e m
@[simp] theorem kFor_ap (g : Tg) (b : List MS) (e : Sl) (w : Wk) (m : Sto) : kFor g b e w m = forL (turnS g b w) w.xs e m := rfl
@[simp] theorem denS_for (g : Tg) (it : MI) (b : List MS) (e : Sl) (m : Sto) : denS (.for g it b) e m = (denI it e m).st e (kFor g b e) := by simp only [denS] <;> rfl
@[simp] theorem turnS_one (i : Nat) (b : List MS) (xs : List T) (x : T) (e : Sl) (m : Sto) : turnS (.one i) b ⟨xs, none⟩ x e m = denSs b (e.set i (some x)) m := by
  unfold turnS
  rw [guardS_none]
  rfl
@[simp] theorem denS_whl (n : Nat) (c : ME) (b : List MS) (e : Sl) (m : Sto) : denS (.whl n c b) e m = whlL (den c) (denSs b) n e m := by simp only [denS]
@[simp] theorem denS_brk (e : Sl) (m : Sto) : denS .brk e m = .bk e m := by simp only [denS]
@[simp] theorem denS_cont (e : Sl) (m : Sto) : denS .cont e m = .ct e m := by simp only [denS]
@[simp] theorem denS_pass (e : Sl) (m : Sto) : denS .pass e m = .nx e m := by simp only [denS]
@[simp] theorem denS_rse (c : Nat) (l : List ME) (e : Sl) (m : Sto) : denS (.rse c l) e m = (denL l e m).st e (kRse c e) := by simp only [denS] <;> rfl
def tryS (r : RS) (cs : List (Nat × Bool)) (i : Option Nat) (k : Sl → Sto → RS) : RS := match r with
  | .exc c xs e1 m1 => match cs.lookup c with
    | some true => (k (match i with
      | some i => e1.set i (some (.exn c xs))
      | none => e1) m1).unb i
    | some false => .exc c xs e1 m1
    | none => .bad
  | r => r
@[simp] theorem denS_try (b : List MS) (cs : List (Nat × Bool)) (i : Option Nat) (s : List MS) (e : Sl) (m : Sto) : denS (.try b cs i s) e m = tryS (denSs b e m) cs i (denSs s) := by simp only [denS] <;> rfl
@[simp] theorem tryS_nx (e : Sl) (m : Sto) (cs : List (Nat × Bool)) (i : Option Nat) (k : Sl → Sto → RS) : tryS (.nx e m) cs i k = .nx e m := rfl
@[simp] theorem tryS_rt (t : T) (m : Sto) (cs : List (Nat × Bool)) (i : Option Nat) (k : Sl → Sto → RS) : tryS (.rt t m) cs i k = .rt t m := rfl
@[simp] theorem unb_nx (i : Nat) (e : Sl) (m : Sto) : (RS.nx e m).unb (some i) = .nx (e.set i none) m := rfl
@[simp] theorem unb_rt (i : Option Nat) (t : T) (m : Sto) : (RS.rt t m).unb i = .rt t m := rfl
@[simp] theorem unb_nx0 (e : Sl) (m : Sto) : (RS.nx e m).unb none = .nx e m := rfl
@[simp] theorem unb_ct (i : Nat) (e : Sl) (m : Sto) : (RS.ct e m).unb (some i) = .ct (e.set i none) m := rfl
@[simp] theorem unb_ct0 (e : Sl) (m : Sto) : (RS.ct e m).unb none = .ct e m := rfl
@[simp] theorem denSs_nil (e : Sl) (m : Sto) : denSs [] e m = .nx e m := by simp only [denSs]
@[simp] theorem denSs_cons (s : MS) (l : List MS) (e : Sl) (m : Sto) : denSs (s :: l) e m = (denS s e m).seq (denSs l) := by simp only [denSs] <;> rfl
@[simp] theorem seq_ite {p : Prop} [Decidable p] (a b : RS) (k : Sl → Sto → RS) : (if p then a else b).seq k = if p then a.seq k else b.seq k := by split <;> rfl
@[simp] theorem st_ite {α : Type} {p : Prop} [Decidable p] (e : Sl) (a b : Rs α) (k : α → Sto → RS) : (if p then a else b).st e k = if p then a.st e k else b.st e k := by split <;> rfl
@[simp] theorem bind_ite {α β : Type} {p : Prop} [Decidable p] (a b : Rs α) (k : α → Sto → Rs β) : (if p then a else b).bind k = if p then a.bind k else b.bind k := by split <;> rfl
/-! ### a def -/
def RS.out (r : RS) : Rs T := match r with
  | .nx _ m' => .ok .non m'
  | .rt t m' => .ok t m'
  | .exc c xs _ m' => .exc c xs m'
  | _ => .bad
theorem fnK_eq {np nl : Nat} {b : List MS} {ts : List T} {m : Sto} (h : ts.length = np) : fnK np nl b ts m = (denSs b (ts.map some ++ List.replicate (nl - np) none) m).out := by
  unfold fnK
  rw [if_pos h]
  cases denSs b (ts.map some ++ List.replicate (nl - np) none) m <;> rfl
@[simp] theorem out_nx (e : Sl) (m : Sto) : (RS.nx e m).out = .ok .non m := rfl
@[simp] theorem out_rt (t : T) (m : Sto) : (RS.rt t m).out = .ok t m := rfl
@[simp] theorem out_exc (c : Nat) (xs : List T) (e : Sl) (m : Sto) : (RS.exc c xs e m).out = .exc c xs m := rfl
@[simp] theorem out_bad : RS.bad.out = .bad := rfl
@[simp] theorem out_ite {p : Prop} [Decidable p] (a b : RS) : (if p then a else b).out = if p then a.out else b.out := by split <;> rfl
/-- its own handles go -/
noncomputable def Rs.drop (r : Rs T) (m : Sto) : Rs T := match r with
  | .ok t m' => drp m m' t
  | .exc c xs m' => drpX c xs m m'
  | .bad => .bad
theorem fnD_eq {np nl : Nat} {b : List MS} {ts : List T} {m : Sto} (h : ts.length = np) : fnD np nl b ts m = ((denSs b (ts.map some ++ List.replicate (nl - np) none) m).out).drop m := by
  unfold fnD
  rw [fnK_eq h]
  cases (denSs b (ts.map some ++ List.replicate (nl - np) none) m).out <;> rfl
/-! ### lists, the store's end -/
@[simp] theorem ge_zero {α : Type} (a : α) (l : List α) : (a :: l)[0]? = some a := rfl
@[simp] theorem ge_succ {α : Type} (a : α) (l : List α) (i : Nat) : (a :: l)[i + 1]? = l[i]? := rfl
@[simp] theorem get_end (m : Sto) (c : Cell) : (m ++ [c])[m.length]? = some c := by simp
@[simp] theorem set_end (m : Sto) (c d : Cell) : (m ++ [c]).set m.length d = m ++ [d] := by simp
@[simp] theorem len_end (m : Sto) (c : Cell) : (m ++ [c]).length = m.length + 1 := by simp
theorem okDr_end (m l : Sto) : okDr m (m ++ l) := by
  refine ⟨by simp, fun k c h e => .inl ?_⟩
  rwa [List.getElem?_append_left h] at e
theorem frz_bel {b : Nat} {m : Sto} : ∀ {n : Nat} {t : T}, bel b t = true → frz b m n t = some t
  | 0, t, h => by unfold frz; rw [if_pos h]
  | n + 1, t, h => by unfold frz; rw [if_pos h]
theorem frzL_bel {b : Nat} {m : Sto} {n : Nat} : ∀ {xs : List T}, bels b xs = true → frzL (frz b m n) xs = some xs
  | [], _ => rfl
  | x :: xs, h => by
    have h' : bel b x = true ∧ bels b xs = true := by simpa [bels] using h
    unfold frzL
    rw [frz_bel h'.1, frzL_bel h'.2]
theorem drp_same {m l : Sto} {t : T} (h : bel m.length t = true) : drp m (m ++ l) t = .ok t m := by
  unfold drp
  rw [if_pos (okDr_end m l), frz_bel h]
  simp
theorem drp_refl {m : Sto} {t : T} (h : bel m.length t = true) : drp m m t = .ok t m := by
  have := drp_same (m := m) (l := []) h
  rwa [List.append_nil] at this
theorem drpX_same {m l : Sto} {c : Nat} {xs : List T} (h : bels m.length xs = true) : drpX c xs m (m ++ l) = .exc c xs m := by
  unfold drpX
  rw [if_pos ⟨okDr_end m l, h⟩]
  simp
theorem drpX_refl {m : Sto} {c : Nat} {xs : List T} (h : bels m.length xs = true) : drpX c xs m m = .exc c xs m := by
  have := drpX_same (m := m) (l := []) (c := c) h
  rwa [List.append_nil] at this
theorem drp_lst {m l : Sto} {xs : List T} (h : bels m.length xs = true) : drp m (m ++ .lst xs :: l) (.hd m.length) = .ok (.lst xs) m := by
  unfold drp
  rw [if_pos (okDr_end m _)]
  have e : frz m.length (m ++ .lst xs :: l) 4 (.hd m.length) = some (.lst xs) := by
    have g : (m ++ .lst xs :: l)[m.length]? = some (.lst xs) := by simp
    unfold frz
    rw [if_neg (by simp [bel])]
    dsimp only
    rw [g]
    dsimp only
    rw [frzL_bel h]
    rfl
  rw [e]
  simp
@[simp] theorem bel_int (b : Nat) (i : Int) : bel b (.int i) = true := rfl
@[simp] theorem bel_bl (b : Nat) (i : Bool) : bel b (.bl i) = true := rfl
@[simp] theorem bel_str (b : Nat) (i : Str) : bel b (.str i) = true := rfl
@[simp] theorem bel_non (b : Nat) : bel b .non = true := rfl
@[simp] theorem bel_tup (b : Nat) (xs : List T) : bel b (.tup xs) = bels b xs := rfl
@[simp] theorem bel_lst (b : Nat) (xs : List T) : bel b (.lst xs) = bels b xs := rfl
@[simp] theorem bel_obj (b c : Nat) (xs : List T) : bel b (.obj c xs) = bels b xs := rfl
@[simp] theorem bels_nil (b : Nat) : bels b [] = true := rfl
@[simp] theorem bels_cons (b : Nat) (x : T) (xs : List T) : bels b (x :: xs) = (bel b x && bels b xs) := rfl
theorem bels_all {b : Nat} : ∀ {xs : List T}, (∀ x ∈ xs, bel b x = true) → bels b xs = true
  | [], _ => rfl
  | x :: xs, h => by
    rw [bels_cons, h x List.mem_cons_self, bels_all fun y hy => h y (List.mem_cons_of_mem _ hy)]
    rfl
@[simp] theorem bels_ints (b : Nat) (ns : List Int) : bels b (ns.map .int) = true := bels_all fun x hx => by
  obtain ⟨i, _, rfl⟩ := List.mem_map.mp hx
  rfl
@[simp] theorem drop_ok (t : T) (m m' : Sto) : (Rs.ok t m').drop m = drp m m' t := Eq.trans rfl rfl
@[simp] theorem drop_exc (c : Nat) (xs : List T) (m m' : Sto) : (Rs.exc c xs m' : Rs T).drop m = drpX c xs m m' := Eq.trans rfl rfl
/-- a new instance whose maker hands back None -/
theorem mkT_ok {c : Nat} {f : Fn} {ts : List T} {m m' : Sto} (h : f (.hd m.length :: ts) (m ++ [.ins c []]) = .ok .non m') : mkT c f ts m = .ok (.hd m.length) m' := by
  unfold mkT
  rw [h]
  rfl
theorem mkT_exc {c k : Nat} {f : Fn} {ts xs : List T} {m m' : Sto} (h : f (.hd m.length :: ts) (m ++ [.ins c []]) = .exc k xs m') : mkT c f ts m = .exc k xs m' := by
  unfold mkT
  rw [h]
  rfl
def fsE (o : Option Nat) (m : Sto) (c : Nat) (xs : List T) (v : T) : Option Sto := match o with
  | some i => if i < xs.length then some (m ++ [.ins c (xs.set i v)]) else if i = xs.length then some (m ++ [.ins c (xs ++ [v])]) else none
  | none => none
@[simp] theorem fsE_some (i : Nat) (m : Sto) (c : Nat) (xs : List T) (v : T) : fsE (some i) m c xs v = if i < xs.length then some (m ++ [.ins c (xs.set i v)]) else if i = xs.length then some (m ++ [.ins c (xs ++ [v])]) else none := rfl
theorem fset_endE (fs : List (Nat × Nat)) (m : Sto) (c : Nat) (xs : List T) (v : T) : fsetT fs (.hd m.length) v (m ++ [.ins c xs]) = fsE (fs.lookup c) m c xs v := by
  unfold fsetT
  dsimp only
  rw [get_end]
  dsimp only
  unfold fsE
  cases fs.lookup c
  · rfl
  · dsimp only
    rw [set_end, set_end]
/-! ### loops -/
@[simp] theorem forL_nil (f : T → Sl → Sto → RS) (e : Sl) (m : Sto) : forL f [] e m = .nx e m := rfl
def RS.lp (r : RS) (k : Sl → Sto → RS) : RS := match r with
  | .nx e m => k e m
  | .ct e m => k e m
  | .bk e m => .nx e m
  | r => r
@[simp] theorem lp_nx (e : Sl) (m : Sto) (k : Sl → Sto → RS) : (RS.nx e m).lp k = k e m := Eq.trans rfl rfl
@[simp] theorem lp_ct (e : Sl) (m : Sto) (k : Sl → Sto → RS) : (RS.ct e m).lp k = k e m := Eq.trans rfl rfl
@[simp] theorem lp_bk (e : Sl) (m : Sto) (k : Sl → Sto → RS) : (RS.bk e m).lp k = .nx e m := rfl
@[simp] theorem lp_rt (t : T) (m : Sto) (k : Sl → Sto → RS) : (RS.rt t m).lp k = .rt t m := rfl
@[simp] theorem lp_exc (c : Nat) (xs : List T) (e : Sl) (m : Sto) (k : Sl → Sto → RS) : (RS.exc c xs e m).lp k = .exc c xs e m := rfl
@[simp] theorem lp_ite {p : Prop} [Decidable p] (a b : RS) (k : Sl → Sto → RS) : (if p then a else b).lp k = if p then a.lp k else b.lp k := by split <;> rfl
theorem forL_cons (f : T → Sl → Sto → RS) (x : T) (xs : List T) (e : Sl) (m : Sto) : forL f (x :: xs) e m = (f x e m).lp (forL f xs) := by
  show (match f x e m with | .nx e' m' => _ | .ct e' m' => _ | .bk e' m' => _ | r => _) = _
  cases f x e m <;> rfl
noncomputable def kWhl (c : Sl → Sto → Rs T) (f : Sl → Sto → RS) (n : Nat) (e : Sl) (t : T) (m : Sto) : RS := RS.tif t ((f e m).lp (whlL c f n)) (.nx e m)
@[simp] theorem kWhl_ap (c : Sl → Sto → Rs T) (f : Sl → Sto → RS) (n : Nat) (e : Sl) (t : T) (m : Sto) : kWhl c f n e t m = RS.tif t ((f e m).lp (whlL c f n)) (.nx e m) := rfl
/-! ### comprehensions -/
/-- a comprehension's turn -/
noncomputable def turnC (g : Tg) (cs : List ME) (x : ME) (e : Sl) (w : Wk) (t : T) (m2 : Sto) : Rs (Option T) := (guardC w (match bindT g t e with
  | none => .bad
  | some e' => (denC cs e' m2).bind fun k m3 => if k then (den x e' m3).bind fun v m4 => .ok (some v) m4 else .ok none m3)).nox
noncomputable def kCmpr (g : Tg) (cs : List ME) (x : ME) (e : Sl) (w : Wk) (m : Sto) : Rs T := compL (turnC g cs x e w) w.xs [] m
@[simp] theorem kCmpr_ap (g : Tg) (cs : List ME) (x : ME) (e : Sl) (w : Wk) (m : Sto) : kCmpr g cs x e w m = compL (turnC g cs x e w) w.xs [] m := rfl
def kT2 (v : T) (m : Sto) : Rs (Option T) := .ok (some v) m
@[simp] theorem kT2_ap (v : T) (m : Sto) : kT2 v m = .ok (some v) m := rfl
noncomputable def kT1 (x : ME) (e : Sl) (k : Bool) (m : Sto) : Rs (Option T) := if k = true then (den x e m).bind kT2 else .ok none m
@[simp] theorem kT1_ap (x : ME) (e : Sl) (k : Bool) (m : Sto) : kT1 x e k m = if k = true then (den x e m).bind kT2 else .ok none m := rfl
@[simp] theorem den_comp (g : Tg) (it : MI) (cs : List ME) (x : ME) (e : Sl) (m : Sto) : den (.comp g it cs x) e m = (denI it e m).bind (kCmpr g cs x e) := by simp only [den] <;> rfl
theorem turnC_none {g : Tg} {cs : List ME} {x : ME} {e e' : Sl} {xs : List T} {t : T} {m : Sto} (h : bindT g t e = some e') : turnC g cs x e ⟨xs, none⟩ t m = ((denC cs e' m).bind (kT1 x e')).nox := by
  unfold turnC
  rw [guardC_none, h]
  rfl
theorem turnC_one {i : Nat} {cs : List ME} {x : ME} {e : Sl} {xs : List T} {t : T} {m : Sto} : turnC (.one i) cs x e ⟨xs, none⟩ t m = ((denC cs (e.set i (some t)) m).bind (kT1 x (e.set i (some t)))).nox := turnC_none rfl
@[simp] theorem compL_nil (f : T → Sto → Rs (Option T)) (acc : List T) (m : Sto) : compL f [] acc m = .ok (.lst acc) m := rfl
def putO (o : Option T) (acc : List T) : List T := match o with
  | none => acc
  | some t => acc ++ [t]
@[simp] theorem putO_none (acc : List T) : putO none acc = acc := rfl
@[simp] theorem putO_some (acc : List T) (t : T) : putO (some t) acc = acc ++ [t] := rfl
noncomputable def kComp (f : T → Sto → Rs (Option T)) (xs acc : List T) (o : Option T) (m : Sto) : Rs T := compL f xs (putO o acc) m
@[simp] theorem kComp_ap (f : T → Sto → Rs (Option T)) (xs acc : List T) (o : Option T) (m : Sto) : kComp f xs acc o m = compL f xs (putO o acc) m := rfl
theorem compL_cons (f : T → Sto → Rs (Option T)) (x : T) (xs acc : List T) (m : Sto) : compL f (x :: xs) acc m = (f x m).bind (kComp f xs acc) := by
  show ((f x m).bind fun o m' => match o with | none => _ | some t => _) = (f x m).bind fun o m' => compL f xs (putO o acc) m'
  congr 1
  funext o m'
  cases o <;> rfl
/-- a comprehension that changes nothing -/
theorem compL_fm {f : T → Sto → Rs (Option T)} {m : Sto} (g : T → Option T) : ∀ {xs acc : List T}, (∀ x ∈ xs, f x m = .ok (g x) m) → compL f xs acc m = .ok (.lst (acc ++ xs.filterMap g)) m
  | [], acc, _ => by simp
  | x :: xs, acc, h => by
    rw [compL_cons, h x List.mem_cons_self, bind_ok, kComp_ap, compL_fm g fun y hy => h y (List.mem_cons_of_mem _ hy)]
    cases q : g x with
    | none => simp [q]
    | some t => simp [q]
theorem compL_map {f : T → Sto → Rs (Option T)} {m : Sto} (g : T → T) {xs acc : List T} (h : ∀ x ∈ xs, f x m = .ok (some (g x)) m) : compL f xs acc m = .ok (.lst (acc ++ xs.map g)) m := by
  rw [compL_fm (fun x => some (g x)) h]
  simp
theorem atI_some {α : Type} {xs : List α} {i : Int} (h0 : 0 ≤ i) (h1 : i < xs.length) : ∃ t, L2.atI xs i = some t ∧ t ∈ xs ∧ xs[i.toNat]? = some t := by
  have hl : i.toNat < xs.length := by omega
  have e : L2.ixN xs.length i = some i.toNat := by
    unfold L2.ixN
    rw [if_pos h0, if_pos h1]
  refine ⟨xs[i.toNat], ?_, List.getElem_mem _, by simp [hl]⟩
  unfold L2.atI
  rw [e]
  simp [hl]
@[simp] theorem nox_ite {α : Type} {p : Prop} [Decidable p] (a b : Rs α) : (if p then a else b).nox = if p then a.nox else b.nox := by split <;> rfl
theorem cutT_take {α : Type} (xs : List α) (n : Nat) : cutT xs none (some (n : Int)) = xs.take n := by
  unfold cutT HT.sIx
  simp only [List.drop_zero, Nat.sub_zero]
  rw [if_neg (by omega)]
  simp
theorem cutT_drop {α : Type} (xs : List α) (n : Nat) : cutT xs (some (n : Int)) none = xs.drop n := by
  unfold cutT HT.sIx
  dsimp only
  rw [if_neg (by omega), Int.toNat_natCast]
  by_cases h : n ≤ xs.length
  · rw [Nat.min_eq_left h]
    exact List.take_of_length_le (by simp)
  · rw [Nat.min_eq_right (by omega), List.drop_eq_nil_of_le (Nat.le_refl _), List.drop_eq_nil_of_le (by omega)]
    simp
theorem cutT_mid {α : Type} (xs : List α) (a b : Nat) (h : a ≤ b) : cutT xs (some (a : Int)) (some (b : Int)) = (xs.drop a).take (b - a) := by
  unfold cutT HT.sIx
  dsimp only
  rw [if_neg (by omega), if_neg (by omega), Int.toNat_natCast, Int.toNat_natCast]
  by_cases h1 : a ≤ xs.length
  · rw [Nat.min_eq_left h1]
    by_cases h2 : b ≤ xs.length
    · rw [Nat.min_eq_left h2]
    · rw [Nat.min_eq_right (by omega), List.take_of_length_le (by simp), List.take_of_length_le (by simp; omega)]
  · rw [List.drop_eq_nil_of_le (by omega), List.drop_eq_nil_of_le (by omega)]
    simp
@[simp] theorem atI_lit {α : Type} (xs : List α) (n : Nat) : L2.atI xs (no_index (OfNat.ofNat n) : Int) = xs[n]? := by
  show L2.atI xs (n : Int) = _
  unfold L2.atI L2.ixN
  rw [if_pos (by omega)]
  by_cases h : (n : Int) < xs.length
  · rw [if_pos h]
    rfl
  · rw [if_neg h, List.getElem?_eq_none (by omega)]
    rfl
def tryK (o : Option Bool) (c : Nat) (xs : List T) (e : Sl) (m : Sto) (i : Option Nat) (k : Sl → Sto → RS) : RS := match o with
  | some true => (k (match i with
      | some i => e.set i (some (.exn c xs))
      | none => e) m).unb i
  | some false => .exc c xs e m
  | none => .bad
@[simp] theorem tryS_excE (c : Nat) (xs : List T) (e : Sl) (m : Sto) (cs : List (Nat × Bool)) (i : Option Nat) (k : Sl → Sto → RS) : tryS (.exc c xs e m) cs i k = tryK (cs.lookup c) c xs e m i k := by
  show (match cs.lookup c with | some true => _ | some false => _ | none => _) = _
  cases cs.lookup c with
  | none => rfl
  | some b => cases b <;> rfl
@[simp] theorem tryK_true (c : Nat) (xs : List T) (e : Sl) (m : Sto) (i : Nat) (k : Sl → Sto → RS) : tryK (some true) c xs e m (some i) k = (k (e.set i (some (.exn c xs))) m).unb (some i) := Eq.trans rfl rfl
@[simp] theorem tryK_true0 (c : Nat) (xs : List T) (e : Sl) (m : Sto) (k : Sl → Sto → RS) : tryK (some true) c xs e m none k = (k e m).unb none := Eq.trans rfl rfl
@[simp] theorem tryK_false (c : Nat) (xs : List T) (e : Sl) (m : Sto) (i : Option Nat) (k : Sl → Sto → RS) : tryK (some false) c xs e m i k = .exc c xs e m := rfl
@[simp] theorem tryS_ite {p : Prop} [Decidable p] (a b : RS) (cs : List (Nat × Bool)) (i : Option Nat) (k : Sl → Sto → RS) : tryS (if p then a else b) cs i k = if p then tryS a cs i k else tryS b cs i k := by split <;> rfl
@[simp] theorem unb_ite {p : Prop} [Decidable p] (a b : RS) (i : Option Nat) : (if p then a else b).unb i = if p then a.unb i else b.unb i := by split <;> rfl
@[simp] theorem walkT_lst (xs : List T) (m : Sto) : walkT (.lst xs) m = some ⟨xs, none⟩ := rfl
@[simp] theorem walkT_tup (xs : List T) (m : Sto) : walkT (.tup xs) m = some ⟨xs, none⟩ := rfl
@[simp] theorem walkT_scr (xs : List Int) (m : Sto) : walkT (.scr xs) m = some ⟨xs.map .int, none⟩ := rfl
@[simp] theorem walkT_str (a : Str) (m : Sto) : walkT (.str a) m = some ⟨a.cps.toList.map fun c => .str ⟨#[c]⟩, none⟩ := rfl
@[simp] theorem bindT_one (i : Nat) (t : T) (e : Sl) : bindT (.one i) t e = some (e.set i (some t)) := rfl
@[simp] theorem bindT_manyL (l : List Nat) (ts : List T) (e : Sl) : bindT (.many l) (.lst ts) e = bindN l ts e := rfl
@[simp] theorem bindT_many (l : List Nat) (ts : List T) (e : Sl) : bindT (.many l) (.tup ts) e = bindN l ts e := rfl
@[simp] theorem bindN_nil (e : Sl) : bindN [] [] e = some e := rfl
@[simp] theorem bindN_cons (i : Nat) (is : List Nat) (t : T) (ts : List T) (e : Sl) : bindN (i :: is) (t :: ts) e = bindN is ts (e.set i (some t)) := rfl
/-! ### a list at the store's end -/
@[simp] theorem toM_lst (xs : List T) (m : Sto) : toM (.ok (.lst xs) m) = .ok (.hd m.length) (m ++ [.lst xs]) := rfl
@[simp] theorem toM_ite {p : Prop} [Decidable p] (a b : Rs T) : toM (if p then a else b) = if p then toM a else toM b := by split <;> rfl
def lmR (k : LM) (n : Nat) (ts : List T) (e : Sl) (m : Sto) : RS := match m[n]? with
  | some (.lst xs) => match lmT k xs ts m with
    | some ys => .nx e (m.set n (.lst ys))
    | none => .bad
  | _ => .bad
def kLmR (k : LM) (n : Nat) (e : Sl) (ts : List T) (m : Sto) : RS := lmR k n ts e m
@[simp] theorem kLmR_ap (k : LM) (n : Nat) (e : Sl) (ts : List T) (m : Sto) : kLmR k n e ts m = lmR k n ts e m := rfl
theorem lmS_hd {k : LM} {n : Nat} {e : Sl} {m : Sto} {f : Sto → Rs (List T)} {xs : List T} (h : m[n]? = some (.lst xs)) : lmS k (.hd n) e m f = (f m).st e (kLmR k n e) := by
  show (match m[n]? with | some (.lst _) => _ | _ => _) = _
  rw [h]
  rfl
@[simp] theorem lmS_end (k : LM) (e : Sl) (m : Sto) (f : Sto → Rs (List T)) (xs : List T) : lmS k (.hd m.length) e (m ++ [.lst xs]) f = (f (m ++ [.lst xs])).st e (kLmR k m.length e) := lmS_hd (get_end m _)
theorem lmR_app {n : Nat} {t : T} {e : Sl} {m : Sto} {xs : List T} (h : m[n]? = some (.lst xs)) (hl : xs.length < 16777216) : lmR .app n [t] e m = .nx e (m.set n (.lst (xs ++ [t]))) := by
  unfold lmR
  rw [h]
  show (match (if xs.length < 16777216 then some (xs ++ [t]) else none) with | some ys => RS.nx e (m.set n (.lst ys)) | none => .bad) = _
  rw [if_pos hl]
@[simp] theorem lmR_app_end (t : T) (e : Sl) (m : Sto) (xs : List T) : lmR .app m.length [t] e (m ++ [.lst xs]) = if xs.length < 16777216 then .nx e (m ++ [.lst (xs ++ [t])]) else .bad := by
  by_cases h : xs.length < 16777216
  · rw [if_pos h, lmR_app (get_end m _) h, set_end]
  · rw [if_neg h]
    unfold lmR
    rw [get_end]
    show (match (if xs.length < 16777216 then some (xs ++ [t]) else none) with | some ys => RS.nx e _ | none => .bad) = _
    rw [if_neg h]
@[simp] theorem seqOf_hd (m : Sto) (n : Nat) : seqOf m (.hd n) = lstOf m (.hd n) := rfl
theorem lstOf_hd {m : Sto} {n : Nat} {xs : List T} (h : m[n]? = some (.lst xs)) : lstOf m (.hd n) = some xs := by
  show (match m[n]? with | some (.lst xs) => some xs | _ => none) = _
  rw [h]
@[simp] theorem lstOf_end (m : Sto) (xs : List T) : lstOf (m ++ [.lst xs]) (.hd m.length) = some xs := lstOf_hd (get_end m _)
def seqK (o : Option (List T)) (f : List T → T) (m : Sto) : Rs T := match o with
  | some xs => .ok (f xs) m
  | none => .bad
@[simp] theorem seqK_some (xs : List T) (f : List T → T) (m : Sto) : seqK (some xs) f m = .ok (f xs) m := rfl
@[simp] theorem bi_tupleH (n : Nat) (m : Sto) : biT .tuple [.hd n] m = seqK (lstOf m (.hd n)) .tup m := by
  show (match lstOf m (.hd n) with | some xs => _ | none => _) = _
  cases lstOf m (.hd n) <;> rfl
@[simp] theorem bi_listH (n : Nat) (m : Sto) : biT .list [.hd n] m = seqK (lstOf m (.hd n)) .lst m := by
  show (match lstOf m (.hd n) with | some xs => _ | none => _) = _
  cases lstOf m (.hd n) <;> rfl
@[simp] theorem bi_lenH (n : Nat) (m : Sto) : biT .len [.hd n] m = seqK (lstOf m (.hd n)) (fun xs => .int xs.length) m := by
  show (match lstOf m (.hd n) with | some xs => _ | none => _) = _
  cases lstOf m (.hd n) <;> rfl
def atO (o : Option (List T)) (n : Nat) (i : Int) (m : Sto) : Rs T := match o with
  | some xs => atT (L2.atI xs i) m
  | none => didxT (.hd n) (.int i) m
@[simp] theorem atO_some (xs : List T) (n : Nat) (i : Int) (m : Sto) : atO (some xs) n i m = atT (L2.atI xs i) m := rfl
@[simp] theorem idxH (n : Nat) (i : Int) (m : Sto) : idxT (.hd n) (.int i) m = atO (lstOf m (.hd n)) n i m := by
  show (match lstOf m (.hd n) with | some xs => _ | none => _) = _
  cases lstOf m (.hd n) with
  | none => rfl
  | some xs =>
    show (match L2.atI xs i with | some t => _ | none => _) = atT (L2.atI xs i) m
    cases L2.atI xs i <;> rfl
/-! ### dicts -/
theorem dicOf_hd {m : Sto} {n : Nat} {kvs : List (L2.Key × T)} (h : m[n]? = some (.dK kvs)) : dicOf m (.hd n) = some kvs := by
  show (match m[n]? with | some (.dK kvs) => some kvs | _ => none) = _
  rw [h]
@[simp] theorem keyT_int (i : Int) : keyT (.int i) = some (.inl i) := rfl
@[simp] theorem keyT_str (i : Str) : keyT (.str i) = some (.inr i) := rfl
def kDnew (n : Nat) (ts : List T) (m : Sto) : Rs T := dnewT n ts m
@[simp] theorem kDnew_ap (n : Nat) (ts : List T) (m : Sto) : kDnew n ts m = dnewT n ts m := rfl
@[simp] theorem den_dnew (l : List ME) (e : Sl) (m : Sto) : den (.dnew l) e m = (denL l e (m ++ [.dK []])).bind (kDnew m.length) := by simp only [den] <;> rfl
theorem dnew_end {m : Sto} {ts : List T} {kvs : List (L2.Key × T)} (h : kvOf ts = some kvs) (hl : kvs.length ≤ 15) : dnewT m.length ts (m ++ [.dK []]) = .ok (.hd m.length) (m ++ [.dK (dmrgT [] kvs)]) := by
  unfold dnewT
  rw [get_end, h]
  dsimp only
  rw [if_pos hl, set_end]
@[simp] theorem dnew_nil (m : Sto) : dnewT m.length [] (m ++ [.dK []]) = .ok (.hd m.length) (m ++ [.dK []]) := dnew_end (kvs := []) rfl (by simp)
def kBm2 (k : BM) (x : T) (ts : List T) (m : Sto) : Rs T := bmT k x ts m
@[simp] theorem kBm2_ap (k : BM) (x : T) (ts : List T) (m : Sto) : kBm2 k x ts m = bmT k x ts m := rfl
def bmO (o : Option BM) (x : T) (f : Sto → Rs (List T)) (m : Sto) : Rs T := match o with
  | some k => (f m).bind (kBm2 k x)
  | none => .bad
@[simp] theorem bmO_some (k : BM) (x : T) (f : Sto → Rs (List T)) (m : Sto) : bmO (some k) x f m = (f m).bind (kBm2 k x) := Eq.trans rfl rfl
noncomputable def kBm (ks : List BM) (l : List ME) (e : Sl) (x : T) (m : Sto) : Rs T := bmO (ks.find? fun k => bmTy k x m) x (denL l e) m
@[simp] theorem kBm_ap (ks : List BM) (l : List ME) (e : Sl) (x : T) (m : Sto) : kBm ks l e x m = bmO (ks.find? fun k => bmTy k x m) x (denL l e) m := rfl
@[simp] theorem den_bm (ks : List BM) (o : ME) (l : List ME) (e : Sl) (m : Sto) : den (.bm ks o l) e m = (den o e m).bind (kBm ks l e) := by simp only [den] <;> rfl
@[simp] theorem den_sset (a : ME) (e : Sl) (m : Sto) : den (.sset a) e m = (den a e m).bind ssetT := by simp only [den] <;> rfl
@[simp] theorem den_mxd (a : ME) (e : Sl) (m : Sto) : den (.mxd a) e m = (den a e m).bind mxdT := by simp only [den] <;> rfl
noncomputable def kStp (k : ME) (e : Sl) (x : T) (m : Sto) : Rs T := (den k e m).bind (stpT x)
@[simp] theorem kStp_ap (k : ME) (e : Sl) (x : T) (m : Sto) : kStp k e x m = (den k e m).bind (stpT x) := rfl
@[simp] theorem den_stp (a k : ME) (e : Sl) (m : Sto) : den (.stp a k) e m = (den a e m).bind (kStp k e) := by simp only [den] <;> rfl
@[simp] theorem stp_lst (xs : List T) (k : Int) (m : Sto) : stpT (.lst xs) (.int k) m = if 1 ≤ k then .ok (.lst (pickL k xs)) m else .bad := rfl
def kRev (x : T) (m : Sto) : Rs T := seqK (lstOf m x) (fun xs => .lst xs.reverse) m
@[simp] theorem kRev_ap (x : T) (m : Sto) : kRev x m = seqK (lstOf m x) (fun xs => .lst xs.reverse) m := rfl
@[simp] theorem den_rev (a : ME) (e : Sl) (m : Sto) : den (.rev a) e m = (den a e m).bind kRev := by simp only [den] <;> rfl
@[simp] theorem bmTy_str (a : Str) (m : Sto) : bmTy .upper (.str a) m = true := rfl
theorem bm_upper {a : Str} (m : Sto) (h : a.length ≤ 5592405 ∧ (Txt.upper a).length ≤ 16777216) : bmT .upper (.str a) [] m = .ok (.str (Txt.upper a)) m := if_pos h
theorem bm_get2 {m : Sto} {n : Nat} {kvs : List (L2.Key × T)} {x d : T} {k : L2.Key} (h : m[n]? = some (.dK kvs)) (hk : keyT x = some k) : bmT .dget2 (.hd n) [x, d] m = .ok ((dgetT kvs k).getD d) m := by
  unfold bmT
  dsimp only
  rw [dicOf_hd h, hk]
/-! what a dict holds -/
@[simp] theorem dget_nil (k : L2.Key) : dgetT [] k = none := rfl
/-- the same, where it is not known -/
noncomputable def drpN (m m' : Sto) (t : T) : Rs T := drp m m' t
noncomputable def drpXN (c : Nat) (xs : List T) (m m' : Sto) : Rs T := drpX c xs m m'
@[simp] theorem drp_sameE (m l : Sto) (t : T) : drp m (m ++ l) t = if bel m.length t = true then .ok t m else drpN m (m ++ l) t := by
  split
  · exact drp_same ‹_›
  · rfl
@[simp] theorem drp_reflE (m : Sto) (t : T) : drp m m t = if bel m.length t = true then .ok t m else drpN m m t := by
  split
  · exact drp_refl ‹_›
  · rfl
@[simp] theorem drpX_sameE (c : Nat) (xs : List T) (m l : Sto) : drpX c xs m (m ++ l) = if bels m.length xs = true then .exc c xs m else drpXN c xs m (m ++ l) := by
  split
  · exact drpX_same ‹_›
  · rfl
@[simp] theorem drpX_reflE (c : Nat) (xs : List T) (m : Sto) : drpX c xs m m = if bels m.length xs = true then .exc c xs m else drpXN c xs m m := by
  split
  · exact drpX_refl ‹_›
  · rfl
@[simp high] theorem drp_lstE (m : Sto) (xs : List T) : drp m (m ++ [.lst xs]) (.hd m.length) = if bels m.length xs = true then .ok (.lst xs) m else drpN m (m ++ [.lst xs]) (.hd m.length) := by
  split
  · exact drp_lst ‹_›
  · rfl
@[simp] theorem drop_ite {p : Prop} [Decidable p] (a b : Rs T) (m : Sto) : (if p then a else b).drop m = if p then a.drop m else b.drop m := by split <;> rfl
@[simp] theorem drop_bad (m : Sto) : (Rs.bad : Rs T).drop m = .bad := rfl
end BV
/-! equality of data -/
namespace BV
open PySem PySem.Spec
/-- data, n deep at most -/
def datT : Nat → T → Bool
  | _, .non => true
  | _, .bl _ => true
  | _, .int _ => true
  | _, .str x => PyData.canLay0 (.str x)
  | n + 1, .lst xs => xs.all (datT n)
  | n + 1, .tup xs => xs.all (datT n)
  | _, _ => false
mutual
def eqvT : T → T → Bool
  | .non, .non => true
  | .bl a, .bl b => a == b
  | .bl a, .int j => (if a then 1 else 0) == j
  | .int i, .bl b => i == (if b then 1 else 0)
  | .int i, .int j => decide (i = j)
  | .str x, .str y => decide (x = y)
  | .lst xs, .lst ys => eqvTs xs ys
  | .tup xs, .tup ys => eqvTs xs ys
  | _, _ => false
def eqvTs : List T → List T → Bool
  | [], [] => true
  | x :: xs, y :: ys => eqvT x y && eqvTs xs ys
  | _, _ => false
end
theorem dat_pd : ∀ (n : Nat) (t : T), datT n t = true → ∃ d, pd t = some d ∧ d.canLay0 = true ∧ d.depth ≤ n := by
  intro n
  induction n with
  | zero =>
    intro t h
    cases t <;> first | (simp [datT] at h; done) | skip
    · exact ⟨_, rfl, rfl, Nat.le_refl _⟩
    · exact ⟨_, rfl, rfl, Nat.le_refl _⟩
    · exact ⟨_, rfl, rfl, Nat.le_refl _⟩
    · exact ⟨_, rfl, by simpa [datT] using h, Nat.le_refl _⟩
  | succ n ih =>
    have key : ∀ xs : List T, xs.all (datT n) = true → ∃ ds, pds xs = some ds ∧ PyData.canLayAll0 ds = true ∧ PyData.depthAll ds ≤ n := by
      intro xs
      induction xs with
      | nil => exact fun _ => ⟨[], rfl, rfl, Nat.zero_le _⟩
      | cons x xs ihx =>
        intro h
        rw [List.all_cons, Bool.and_eq_true] at h
        obtain ⟨d, h1, h2, h3⟩ := ih x h.1
        obtain ⟨ds, k1, k2, k3⟩ := ihx h.2
        refine ⟨d :: ds, by simp only [pds, h1, k1], ?_, ?_⟩
        · simp only [PyData.canLayAll0, h2, k2, Bool.and_self]
        · simp only [PyData.depthAll]
          omega
    intro t h
    cases t <;> first | (simp [datT] at h; done) | skip
    · exact ⟨_, rfl, rfl, Nat.zero_le _⟩
    · exact ⟨_, rfl, rfl, Nat.zero_le _⟩
    · exact ⟨_, rfl, rfl, Nat.zero_le _⟩
    · exact ⟨_, rfl, by simpa [datT] using h, Nat.zero_le _⟩
    · rename_i xs
      obtain ⟨ds, h1, h2, h3⟩ := key xs (by simpa only [datT] using h)
      refine ⟨.list ds, by simp only [pd, h1]; rfl, by simpa only [PyData.canLay0] using h2, by simp only [PyData.depth]; omega⟩
    · rename_i xs
      obtain ⟨ds, h1, h2, h3⟩ := key xs (by simpa only [datT] using h)
      refine ⟨.tuple ds, by simp only [pd, h1]; rfl, by simpa only [PyData.canLay0] using h2, by simp only [PyData.depth]; omega⟩
mutual
theorem eqv_pd : ∀ (x y : T) (d e : PyData), pd x = some d → pd y = some e → PyData.eqv d e = eqvT x y
  | .non, y, d, e, hx, hy => by
    obtain rfl : PyData.none = d := Option.some.inj hx
    cases y <;> simp [pd] at hy <;> try (subst hy; rfl)
    all_goals (obtain ⟨ds, _, rfl⟩ := hy; rfl)
  | .bl a, y, d, e, hx, hy => by
    obtain rfl : PyData.bool a = d := Option.some.inj hx
    cases y <;> simp [pd] at hy <;> try (subst hy; rfl)
    all_goals (obtain ⟨ds, _, rfl⟩ := hy; rfl)
  | .int a, y, d, e, hx, hy => by
    obtain rfl : PyData.int a = d := Option.some.inj hx
    cases y <;> simp [pd] at hy <;> try (subst hy; first | rfl | simp [PyData.eqv, eqvT, Bool.beq_eq_decide_eq])
    all_goals (obtain ⟨ds, _, rfl⟩ := hy; rfl)
  | .str a, y, d, e, hx, hy => by
    obtain rfl : PyData.str a = d := Option.some.inj hx
    cases y <;> simp [pd] at hy <;> try (subst hy; first | rfl | simp [PyData.eqv, eqvT, Bool.beq_eq_decide_eq])
    all_goals (obtain ⟨ds, _, rfl⟩ := hy; rfl)
  | .lst xs, y, d, e, hx, hy => by
    simp only [pd, Option.map_eq_some_iff] at hx
    obtain ⟨ds, h1, rfl⟩ := hx
    cases y <;> simp [pd] at hy <;> try (subst hy; rfl)
    all_goals obtain ⟨es, h2, rfl⟩ := hy
    · simpa only [PyData.eqv, eqvT] using eqvs_pd xs _ ds es h1 h2
    · rfl
  | .tup xs, y, d, e, hx, hy => by
    simp only [pd, Option.map_eq_some_iff] at hx
    obtain ⟨ds, h1, rfl⟩ := hx
    cases y <;> simp [pd] at hy <;> try (subst hy; rfl)
    all_goals obtain ⟨es, h2, rfl⟩ := hy
    · rfl
    · simpa only [PyData.eqv, eqvT] using eqvs_pd xs _ ds es h1 h2
  | .ty _, _, _, _, hx, _ => nomatch hx
  | .obj _ _, _, _, _, hx, _ => nomatch hx
  | .hd _, _, _, _, hx, _ => nomatch hx
  | .scr _, _, _, _, hx, _ => nomatch hx
  | .exn _ _, _, _, _, hx, _ => nomatch hx
  | .fn _, _, _, _, hx, _ => nomatch hx
theorem eqvs_pd : ∀ (xs ys : List T) (ds es : List PyData), pds xs = some ds → pds ys = some es → PyData.eqvAll ds es = eqvTs xs ys
  | [], [], ds, es, hx, hy => by
    obtain rfl := Option.some.inj hx
    obtain rfl := Option.some.inj hy
    rfl
  | [], y :: ys, ds, es, hx, hy => by
    obtain rfl := Option.some.inj hx
    simp only [pds] at hy
    split at hy <;> cases hy
    rfl
  | x :: xs, [], ds, es, hx, hy => by
    obtain rfl := Option.some.inj hy
    simp only [pds] at hx
    split at hx <;> cases hx
    rfl
  | x :: xs, y :: ys, ds, es, hx, hy => by
    simp only [pds] at hx hy
    split at hx
    · rename_i d ds' h1 h2
      obtain rfl := Option.some.inj hx
      split at hy
      · rename_i e es' k1 k2
        obtain rfl := Option.some.inj hy
        simp only [PyData.eqvAll, eqvTs, eqv_pd x y d e h1 k1, eqvs_pd xs ys ds' es' h2 k2]
      · cases hy
    · cases hx
end
theorem eqC_dat {x y : T} (hx : datT 64 x = true) (hy : datT 64 y = true) : eqC x y = some (eqvT x y) := by
  obtain ⟨d, h1, h2, h3⟩ := dat_pd 64 x hx
  obtain ⟨e, k1, k2, k3⟩ := dat_pd 64 y hy
  have q : eqT x y = some (eqvT x y) := by
    unfold eqT
    rw [h1, k1]
    dsimp only
    have s1 : SeqAt.shaped d = true := by unfold SeqAt.shaped; rw [h2, decide_eq_true h3]; rfl
    have s2 : SeqAt.shaped e = true := by unfold SeqAt.shaped; rw [k2, decide_eq_true k3]; rfl
    rw [s1, s2, eqv_pd x y d e h1 k1]
    rfl
  unfold eqC
  split
  · simp only [eqvT]
  · simp only [eqvT]
  · simp only [eqvT]
    rw [Bool.beq_eq_decide_eq]
  · exact q
theorem rdL_dat {n : Nat} {x : T} {m : Sto} (hx : datT n x = true) : rdL m x = x := by
  cases x <;> first | rfl | (simp [datT] at hx; done)
theorem cmp_eqD {x y : T} (m : Sto) (hx : datT 64 x = true) (hy : datT 64 y = true) : cmpT .Eq x y m = .ok (.bl (eqvT x y)) m := by
  unfold cmpT cmpB
  dsimp only
  rw [rdL_dat hx, rdL_dat hy, eqC_dat hx hy]
theorem cmp_neD {x y : T} (m : Sto) (hx : datT 64 x = true) (hy : datT 64 y = true) : cmpT .NotEq x y m = .ok (.bl (!eqvT x y)) m := by
  unfold cmpT cmpB
  dsimp only
  rw [rdL_dat hx, rdL_dat hy, eqC_dat hx hy]
  rfl
@[simp] theorem datT_non (n : Nat) : datT n .non = true := by cases n <;> rfl
@[simp] theorem datT_bl (n : Nat) (b : Bool) : datT n (.bl b) = true := by cases n <;> rfl
@[simp] theorem datT_int (n : Nat) (i : Int) : datT n (.int i) = true := by cases n <;> rfl
theorem datT_str (n : Nat) (x : Str) : datT n (.str x) = PyData.canLay0 (.str x) := by cases n <;> rfl
@[simp] theorem datT_lst (n : Nat) (xs : List T) : datT (n + 1) (.lst xs) = xs.all (datT n) := rfl
@[simp] theorem datT_tup (n : Nat) (xs : List T) : datT (n + 1) (.tup xs) = xs.all (datT n) := rfl
@[simp] theorem datT_ints (n : Nat) (ns : List Int) : (ns.map T.int).all (datT n) = true := by
  rw [List.all_map]
  exact List.all_eq_true.mpr fun i _ => datT_int n i
@[simp] theorem eqvT_int (i j : Int) : eqvT (.int i) (.int j) = decide (i = j) := rfl
@[simp] theorem eqvT_bl (i j : Bool) : eqvT (.bl i) (.bl j) = (i == j) := rfl
@[simp] theorem eqvT_str (i j : Str) : eqvT (.str i) (.str j) = decide (i = j) := rfl
@[simp] theorem eqvT_non : eqvT .non .non = true := rfl
@[simp] theorem eqvT_lst (xs ys : List T) : eqvT (.lst xs) (.lst ys) = eqvTs xs ys := by simp only [eqvT]
@[simp] theorem eqvT_tup (xs ys : List T) : eqvT (.tup xs) (.tup ys) = eqvTs xs ys := by simp only [eqvT]
@[simp] theorem eqvTs_nil : eqvTs [] [] = true := rfl
@[simp] theorem eqvTs_cons (x y : T) (xs ys : List T) : eqvTs (x :: xs) (y :: ys) = (eqvT x y && eqvTs xs ys) := by simp only [eqvTs]
@[simp] theorem eqvTs_cn (x : T) (xs : List T) : eqvTs (x :: xs) [] = false := by simp only [eqvTs]
@[simp] theorem eqvTs_nc (x : T) (xs : List T) : eqvTs [] (x :: xs) = false := by simp only [eqvTs]
theorem eqvT_refl : ∀ (n : Nat) (x : T), datT n x = true → eqvT x x = true := by
  intro n
  induction n with
  | zero => intro x h; cases x <;> first | (simp [datT] at h; done) | simp
  | succ n ih =>
    have key : ∀ xs : List T, xs.all (datT n) = true → eqvTs xs xs = true := by
      intro xs
      induction xs with
      | nil => exact fun _ => rfl
      | cons x xs ihx =>
        intro h
        rw [List.all_cons, Bool.and_eq_true] at h
        rw [eqvTs_cons, ih x h.1, ihx h.2]
        rfl
    intro x h
    cases x <;> first | (simp [datT] at h; done) | simp
    · exact key _ (by simpa using h)
    · exact key _ (by simpa using h)
theorem cmp_eqTup {xs ys : List T} (m : Sto) (hx : xs.all (datT 63) = true) (hy : ys.all (datT 63) = true) : cmpT .Eq (.tup xs) (.tup ys) m = .ok (.bl (eqvTs xs ys)) m := by
  rw [cmp_eqD (x := .tup xs) (y := .tup ys) m hx hy, eqvT_tup]
theorem cmp_neTup {xs ys : List T} (m : Sto) (hx : xs.all (datT 63) = true) (hy : ys.all (datT 63) = true) : cmpT .NotEq (.tup xs) (.tup ys) m = .ok (.bl (!eqvTs xs ys)) m := by
  rw [cmp_neD (x := .tup xs) (y := .tup ys) m hx hy, eqvT_tup]
theorem cmp_eqLst {xs ys : List T} (m : Sto) (hx : xs.all (datT 63) = true) (hy : ys.all (datT 63) = true) : cmpT .Eq (.lst xs) (.lst ys) m = .ok (.bl (eqvTs xs ys)) m := by
  rw [cmp_eqD (x := .lst xs) (y := .lst ys) m hx hy, eqvT_lst]
theorem cmp_neLst {xs ys : List T} (m : Sto) (hx : xs.all (datT 63) = true) (hy : ys.all (datT 63) = true) : cmpT .NotEq (.lst xs) (.lst ys) m = .ok (.bl (!eqvTs xs ys)) m := by
  rw [cmp_neD (x := .lst xs) (y := .lst ys) m hx hy, eqvT_lst]
@[simp] theorem cmp_eqB (a b : Bool) (m : Sto) : cmpT .Eq (.bl a) (.bl b) m = .ok (.bl (a == b)) m := cmp_eqD m rfl rfl
@[simp] theorem cmp_neB (a b : Bool) (m : Sto) : cmpT .NotEq (.bl a) (.bl b) m = .ok (.bl (!(a == b))) m := cmp_neD m rfl rfl
@[simp] theorem idx_end (m : Sto) (xs : List T) (i : Int) : idxT (.hd m.length) (.int i) (m ++ [.lst xs]) = atT (L2.atI xs i) (m ++ [.lst xs]) := idx_hd (get_end m _) i
end BV
/-! what is asked of a run: a stack of what comes behind -/
namespace BV
open PySem PySem.Spec
structure PR (α : Type) where
  ok : α → Sto → Prop
  ex : Nat → List T → Sto → Prop
structure PS where
  nx : Sl → Sto → Prop
  rt : T → Sto → Prop
  bk : Sl → Sto → Prop
  ct : Sl → Sto → Prop
  ex : Nat → List T → Sl → Sto → Prop
def Wm {α : Type} (r : Rs α) (K : PR α) : Prop := match r with
  | .ok a m => K.ok a m
  | .exc c xs m => K.ex c xs m
  | .bad => False
/-- a structure, so that nothing reckons it out -/
structure W {α : Type} (r : Rs α) (K : PR α) : Prop where
  out : Wm r K
def WSm (r : RS) (K : PS) : Prop := match r with
  | .nx e m => K.nx e m
  | .rt t m => K.rt t m
  | .bk e m => K.bk e m
  | .ct e m => K.ct e m
  | .exc c xs e m => K.ex c xs e m
  | .bad => False
structure WS (r : RS) (K : PS) : Prop where
  out : WSm r K
def pBind {α β : Type} (k : α → Sto → Rs β) (K : PR β) : PR α := ⟨fun a m => W (k a m) K, K.ex⟩
def pSt {α : Type} (e : Sl) (k : α → Sto → RS) (K : PS) : PR α := ⟨fun a m => WS (k a m) K, fun c xs m => K.ex c xs e m⟩
def pSeq (k : Sl → Sto → RS) (K : PS) : PS := ⟨fun e m => WS (k e m) K, K.rt, K.bk, K.ct, K.ex⟩
def pOut (K : PR T) : PS := ⟨fun _ m => K.ok .non m, K.ok, fun _ _ => False, fun _ _ => False, fun c xs _ m => K.ex c xs m⟩
def pDrop (m0 : Sto) (K : PR T) : PR T := ⟨fun t m => W (drp m0 m t) K, fun c xs m => W (drpX c xs m0 m : Rs T) K⟩
def pTry (cs : List (Nat × Bool)) (i : Option Nat) (k : Sl → Sto → RS) (K : PS) : PS := ⟨K.nx, K.rt, K.bk, K.ct, fun c xs e m => WS (tryK (cs.lookup c) c xs e m i k) K⟩
def pUnb (i : Option Nat) (K : PS) : PS := ⟨fun e m => K.nx (unbind i e) m, K.rt, fun e m => K.bk (unbind i e) m, fun e m => K.ct (unbind i e) m, fun _ _ _ _ => False⟩
def pLp (k : Sl → Sto → RS) (K : PS) : PS := ⟨fun e m => WS (k e m) K, K.rt, K.nx, fun e m => WS (k e m) K, K.ex⟩
def pNox {α : Type} (K : PR α) : PR α := ⟨K.ok, fun _ _ _ => False⟩
def pToM (K : PR T) : PR T := ⟨fun t m => match t with
  | .lst xs => K.ok (.hd m.length) (m ++ [.lst xs])
  | _ => False, K.ex⟩
/-- an end: just this; nothing is raised -/
def pFin {α : Type} (Q : α → Sto → Prop) : PR α := ⟨Q, fun _ _ _ => False⟩
/-- a turn's end -/
def pTurn (I : Sl → Sto → Prop) (K : PS) : PS := ⟨I, K.rt, K.nx, I, K.ex⟩
/-- a block's end: just this -/
def pNx (I : Sl → Sto → Prop) : PS := ⟨I, fun _ _ => False, fun _ _ => False, fun _ _ => False, fun _ _ _ _ => False⟩
section
variable {α β : Type}
@[simp] theorem W_ok (a : α) (m : Sto) (K : PR α) : W (.ok a m) K = K.ok a m := propext ⟨fun h => h.out, fun h => ⟨h⟩⟩
@[simp] theorem W_exc (c : Nat) (xs : List T) (m : Sto) (K : PR α) : W (.exc c xs m) K = K.ex c xs m := propext ⟨fun h => h.out, fun h => ⟨h⟩⟩
@[simp] theorem W_bad (K : PR α) : W (.bad : Rs α) K = False := propext ⟨fun h => h.out, fun h => ⟨h⟩⟩
@[simp] theorem WS_nx (e : Sl) (m : Sto) (K : PS) : WS (.nx e m) K = K.nx e m := propext ⟨fun h => h.out, fun h => ⟨h⟩⟩
@[simp] theorem WS_rt (t : T) (m : Sto) (K : PS) : WS (.rt t m) K = K.rt t m := propext ⟨fun h => h.out, fun h => ⟨h⟩⟩
@[simp] theorem WS_bk (e : Sl) (m : Sto) (K : PS) : WS (.bk e m) K = K.bk e m := propext ⟨fun h => h.out, fun h => ⟨h⟩⟩
@[simp] theorem WS_ct (e : Sl) (m : Sto) (K : PS) : WS (.ct e m) K = K.ct e m := propext ⟨fun h => h.out, fun h => ⟨h⟩⟩
@[simp] theorem WS_exc (c : Nat) (xs : List T) (e : Sl) (m : Sto) (K : PS) : WS (.exc c xs e m) K = K.ex c xs e m := propext ⟨fun h => h.out, fun h => ⟨h⟩⟩
@[simp] theorem WS_bad (K : PS) : WS .bad K = False := propext ⟨fun h => h.out, fun h => ⟨h⟩⟩
@[simp] theorem pBind_ok (k : α → Sto → Rs β) (K : PR β) (a : α) (m : Sto) : (pBind k K).ok a m = W (k a m) K := Eq.trans rfl rfl
@[simp] theorem pBind_ex (k : α → Sto → Rs β) (K : PR β) : (pBind k K).ex = K.ex := rfl
@[simp] theorem pSt_ok (e : Sl) (k : α → Sto → RS) (K : PS) (a : α) (m : Sto) : (pSt e k K).ok a m = WS (k a m) K := Eq.trans rfl rfl
@[simp] theorem pSt_ex (e : Sl) (k : α → Sto → RS) (K : PS) (c : Nat) (xs : List T) (m : Sto) : (pSt e k K).ex c xs m = K.ex c xs e m := rfl
@[simp] theorem pSeq_nx (k : Sl → Sto → RS) (K : PS) (e : Sl) (m : Sto) : (pSeq k K).nx e m = WS (k e m) K := Eq.trans rfl rfl
@[simp] theorem pSeq_rt (k : Sl → Sto → RS) (K : PS) : (pSeq k K).rt = K.rt := rfl
@[simp] theorem pSeq_bk (k : Sl → Sto → RS) (K : PS) : (pSeq k K).bk = K.bk := rfl
@[simp] theorem pSeq_ct (k : Sl → Sto → RS) (K : PS) : (pSeq k K).ct = K.ct := rfl
@[simp] theorem pSeq_ex (k : Sl → Sto → RS) (K : PS) : (pSeq k K).ex = K.ex := rfl
@[simp] theorem pOut_nx (K : PR T) (e : Sl) (m : Sto) : (pOut K).nx e m = K.ok .non m := rfl
@[simp] theorem pOut_rt (K : PR T) : (pOut K).rt = K.ok := rfl
@[simp] theorem pOut_ex (K : PR T) (c : Nat) (xs : List T) (e : Sl) (m : Sto) : (pOut K).ex c xs e m = K.ex c xs m := rfl
@[simp] theorem pDrop_ok (m0 : Sto) (K : PR T) (t : T) (m : Sto) : (pDrop m0 K).ok t m = W (drp m0 m t) K := Eq.trans rfl rfl
@[simp] theorem pDrop_ex (m0 : Sto) (K : PR T) (c : Nat) (xs : List T) (m : Sto) : (pDrop m0 K).ex c xs m = W (drpX c xs m0 m : Rs T) K := Eq.trans rfl rfl
@[simp] theorem pTry_nx (cs : List (Nat × Bool)) (i : Option Nat) (k : Sl → Sto → RS) (K : PS) : (pTry cs i k K).nx = K.nx := rfl
@[simp] theorem pTry_rt (cs : List (Nat × Bool)) (i : Option Nat) (k : Sl → Sto → RS) (K : PS) : (pTry cs i k K).rt = K.rt := rfl
@[simp] theorem pTry_bk (cs : List (Nat × Bool)) (i : Option Nat) (k : Sl → Sto → RS) (K : PS) : (pTry cs i k K).bk = K.bk := rfl
@[simp] theorem pTry_ct (cs : List (Nat × Bool)) (i : Option Nat) (k : Sl → Sto → RS) (K : PS) : (pTry cs i k K).ct = K.ct := rfl
@[simp] theorem pTry_ex (cs : List (Nat × Bool)) (i : Option Nat) (k : Sl → Sto → RS) (K : PS) (c : Nat) (xs : List T) (e : Sl) (m : Sto) : (pTry cs i k K).ex c xs e m = WS (tryK (cs.lookup c) c xs e m i k) K := Eq.trans rfl rfl
@[simp] theorem pUnb_nx (i : Option Nat) (K : PS) (e : Sl) (m : Sto) : (pUnb i K).nx e m = K.nx (unbind i e) m := rfl
@[simp] theorem pUnb_rt (i : Option Nat) (K : PS) : (pUnb i K).rt = K.rt := rfl
@[simp] theorem pUnb_bk (i : Option Nat) (K : PS) (e : Sl) (m : Sto) : (pUnb i K).bk e m = K.bk (unbind i e) m := rfl
@[simp] theorem pUnb_ct (i : Option Nat) (K : PS) (e : Sl) (m : Sto) : (pUnb i K).ct e m = K.ct (unbind i e) m := rfl
@[simp] theorem unbind_none (e : Sl) : unbind none e = e := rfl
@[simp] theorem unbind_some (i : Nat) (e : Sl) : unbind (some i) e = e.set i none := rfl
@[simp] theorem pLp_nx (k : Sl → Sto → RS) (K : PS) (e : Sl) (m : Sto) : (pLp k K).nx e m = WS (k e m) K := Eq.trans rfl rfl
@[simp] theorem pLp_ct (k : Sl → Sto → RS) (K : PS) (e : Sl) (m : Sto) : (pLp k K).ct e m = WS (k e m) K := Eq.trans rfl rfl
@[simp] theorem pLp_rt (k : Sl → Sto → RS) (K : PS) : (pLp k K).rt = K.rt := rfl
@[simp] theorem pLp_bk (k : Sl → Sto → RS) (K : PS) : (pLp k K).bk = K.nx := rfl
@[simp] theorem pLp_ex (k : Sl → Sto → RS) (K : PS) : (pLp k K).ex = K.ex := rfl
@[simp] theorem pNox_ok (K : PR α) : (pNox K).ok = K.ok := rfl
@[simp] theorem pToM_lst (K : PR T) (xs : List T) (m : Sto) : (pToM K).ok (.lst xs) m = K.ok (.hd m.length) (m ++ [.lst xs]) := rfl
@[simp] theorem pToM_ex (K : PR T) : (pToM K).ex = K.ex := rfl
@[simp] theorem pFin_ok (Q : α → Sto → Prop) : (pFin Q).ok = Q := rfl
@[simp] theorem pTurn_nx (I : Sl → Sto → Prop) (K : PS) : (pTurn I K).nx = I := rfl
@[simp] theorem pTurn_ct (I : Sl → Sto → Prop) (K : PS) : (pTurn I K).ct = I := rfl
@[simp] theorem pTurn_bk (I : Sl → Sto → Prop) (K : PS) : (pTurn I K).bk = K.nx := rfl
@[simp] theorem pTurn_rt (I : Sl → Sto → Prop) (K : PS) : (pTurn I K).rt = K.rt := rfl
@[simp] theorem pTurn_ex (I : Sl → Sto → Prop) (K : PS) : (pTurn I K).ex = K.ex := rfl
@[simp] theorem pNx_nx (I : Sl → Sto → Prop) : (pNx I).nx = I := rfl
@[simp] theorem W_bind (r : Rs α) (k : α → Sto → Rs β) (K : PR β) : W (r.bind k) K = W r (pBind k K) := by cases r <;> simp
@[simp] theorem WS_st (r : Rs α) (e : Sl) (k : α → Sto → RS) (K : PS) : WS (r.st e k) K = W r (pSt e k K) := by cases r <;> simp
@[simp] theorem WS_seq (r : RS) (k : Sl → Sto → RS) (K : PS) : WS (r.seq k) K = WS r (pSeq k K) := by cases r <;> simp
@[simp] theorem W_out (r : RS) (K : PR T) : W r.out K = WS r (pOut K) := by cases r <;> exact propext ⟨fun h => ⟨h.out⟩, fun h => ⟨h.out⟩⟩
@[simp] theorem W_drop (r : Rs T) (m : Sto) (K : PR T) : W (r.drop m) K = W r (pDrop m K) := by cases r <;> simp
@[simp] theorem WS_try (r : RS) (cs : List (Nat × Bool)) (i : Option Nat) (k : Sl → Sto → RS) (K : PS) : WS (tryS r cs i k) K = WS r (pTry cs i k K) := by
  cases r <;> first | (simp; done) | skip
  all_goals exact propext ⟨fun h => ⟨h.out⟩, fun h => ⟨h.out⟩⟩
@[simp] theorem WS_unb (r : RS) (i : Option Nat) (K : PS) : WS (r.unb i) K = WS r (pUnb i K) := by cases r <;> exact propext ⟨fun h => ⟨h.out⟩, fun h => ⟨h.out⟩⟩
@[simp] theorem WS_lp (r : RS) (k : Sl → Sto → RS) (K : PS) : WS (r.lp k) K = WS r (pLp k K) := by cases r <;> first | exact propext ⟨fun h => ⟨h.out⟩, fun h => ⟨h.out⟩⟩ | exact propext ⟨fun h => ⟨h⟩, fun h => h.out⟩
@[simp] theorem W_nox (r : Rs α) (K : PR α) : W r.nox K = W r (pNox K) := by cases r <;> exact propext ⟨fun h => ⟨h.out⟩, fun h => ⟨h.out⟩⟩
@[simp] theorem W_toM (r : Rs T) (K : PR T) : W (toM r) K = W r (pToM K) := by
  cases r with
  | ok t m => cases t <;> first | (simp; done) | exact propext ⟨fun h => ⟨h.out⟩, fun h => ⟨h.out⟩⟩
  | exc c xs m => exact propext ⟨fun h => ⟨h.out⟩, fun h => ⟨h.out⟩⟩
  | bad => exact propext ⟨fun h => ⟨h.out⟩, fun h => ⟨h.out⟩⟩
theorem W_ite {p : Prop} [Decidable p] {a b : Rs α} {K : PR α} (h1 : p → W a K) (h2 : ¬ p → W b K) : W (if p then a else b) K := by
  by_cases h : p
  · rw [if_pos h]; exact h1 h
  · rw [if_neg h]; exact h2 h
theorem WS_ite {p : Prop} [Decidable p] {a b : RS} {K : PS} (h1 : p → WS a K) (h2 : ¬ p → WS b K) : WS (if p then a else b) K := by
  by_cases h : p
  · rw [if_pos h]; exact h1 h
  · rw [if_neg h]; exact h2 h
theorem W_eq {r : Rs α} {a : α} {m : Sto} {K : PR α} (h : r = .ok a m) (k : K.ok a m) : W r K := by rw [h]; exact ⟨k⟩
theorem fin_ex {r : Rs α} {φ : α → Sto → Prop} (h : W r (pFin φ)) : ∃ a m, r = .ok a m ∧ φ a m := by
  cases r with
  | ok a m => exact ⟨a, m, rfl, h.out⟩
  | exc c xs m => exact h.out.elim
  | bad => exact h.out.elim
theorem W_mono {r : Rs α} {K L : PR α} (h : W r K) (h1 : ∀ a m, K.ok a m → L.ok a m) (h2 : ∀ c xs m, K.ex c xs m → L.ex c xs m) : W r L := by
  cases r with
  | ok a m => exact ⟨h1 a m h.out⟩
  | exc c xs m => exact ⟨h2 c xs m h.out⟩
  | bad => exact h.out.elim
theorem WS_mono {r : RS} {K L : PS} (h : WS r K) (h1 : ∀ e m, K.nx e m → L.nx e m) (h2 : ∀ t m, K.rt t m → L.rt t m) (h3 : ∀ e m, K.bk e m → L.bk e m) (h4 : ∀ e m, K.ct e m → L.ct e m) (h5 : ∀ c xs e m, K.ex c xs e m → L.ex c xs e m) : WS r L := by
  cases r <;> first | exact ⟨h1 _ _ h.out⟩ | exact ⟨h2 _ _ h.out⟩ | exact ⟨h3 _ _ h.out⟩ | exact ⟨h4 _ _ h.out⟩ | exact ⟨h5 _ _ _ _ h.out⟩ | exact h.out.elim
/-- a loop that keeps what it needs, or ends -/
theorem WS_for {f : T → Sl → Sto → RS} {K : PS} (I : Nat → Sl → Sto → Prop) {xs : List T} {e : Sl} {m : Sto} (h0 : I 0 e m)
    (hs : ∀ (i : Nat) x e m, xs[i]? = some x → I i e m → WS (f x e m) (pTurn (I (i + 1)) K)) (hd : ∀ e m, I xs.length e m → K.nx e m) : WS (forL f xs e m) K := by
  induction xs generalizing I e m with
  | nil => exact ⟨hd e m h0⟩
  | cons x xs ih =>
    rw [forL_cons, WS_lp]
    have go : ∀ e m, I 1 e m → WS (forL f xs e m) K := fun e m h => ih (fun i => I (i + 1)) h (fun i y e m q hI => hs (i + 1) y e m (by simpa using q) hI) hd
    exact WS_mono (hs 0 x e m rfl h0) go (fun _ _ h => h) (fun _ _ h => h) go (fun _ _ _ _ h => h)
theorem WS_keep {f : T → Sl → Sto → RS} {K : PS} (I : Sl → Sto → Prop) {xs : List T} {e : Sl} {m : Sto} (h0 : I e m)
    (hs : ∀ x ∈ xs, ∀ e m, I e m → WS (f x e m) (pTurn I K)) (hd : ∀ e m, I e m → K.nx e m) : WS (forL f xs e m) K :=
  WS_for (fun _ => I) h0 (fun i x e m q hI => hs x (List.mem_of_getElem? q) e m hI) hd
/-- a comprehension: what is asked of each turn, with what was put -/
theorem W_comp {f : T → Sto → Rs (Option T)} {K : PR T} (I : Nat → List T → Sto → Prop) {xs acc : List T} {m : Sto} (h0 : I 0 acc m)
    (hs : ∀ (i : Nat) x acc m, xs[i]? = some x → I i acc m → W (f x m) ⟨fun o m' => I (i + 1) (putO o acc) m', K.ex⟩) (hd : ∀ acc m, I xs.length acc m → K.ok (.lst acc) m) : W (compL f xs acc m) K := by
  induction xs generalizing I acc m with
  | nil => exact ⟨hd acc m h0⟩
  | cons x xs ih =>
    rw [compL_cons, W_bind]
    exact W_mono (hs 0 x acc m rfl h0) (fun o m' h => ih (fun i => I (i + 1)) h (fun i y acc m q hI => hs (i + 1) y acc m (by simpa using q) hI) hd) (fun _ _ _ h => h)
end
/-! ### the store -/
theorem gs_same {m : Sto} {n : Nat} {c d : Cell} (h : m[n]? = some d) : (m.set n c)[n]? = some c := by
  rw [List.getElem?_set_self (List.getElem?_eq_some_iff.mp h).1]
theorem ga_l {m l : Sto} {n : Nat} {d : Cell} (h : m[n]? = some d) : (m ++ l)[n]? = some d := by
  rw [List.getElem?_append_left (List.getElem?_eq_some_iff.mp h).1]; exact h
theorem sub_hd {n : Nat} {m : Sto} {xs : List T} {i : Int} {x : T} {e : Sl} (h : m[n]? = some (.lst xs)) (h0 : 0 ≤ i) (h1 : i < xs.length) : subS (.hd n) (.int i) x e m = .nx e (m.set n (.lst (xs.set i.toNat x))) := by
  unfold subS
  dsimp only
  rw [h]
  dsimp only
  have : L2.ixN xs.length i = some i.toNat := by
    unfold L2.ixN
    rw [if_pos h0, if_pos h1]
  rw [this]
theorem guardC_st {α : Type} {w : Wk} {a : α} {m : Sto} (h : stands w m) : guardC w (.ok a m) = .ok a m := by
  unfold guardC
  dsimp only
  rw [if_pos h]
theorem compL_st {i : Nat} {x : ME} {e : Sl} {xs : List T} {n : Option Wh} {m : Sto} (g : stands ⟨xs, n⟩ m) (f : T → T) (h : ∀ t ∈ xs, den x (e.set i (some t)) m = .ok (f t) m) : compL (turnC (.one i) [] x e ⟨xs, n⟩) xs [] m = .ok (.lst (xs.map f)) m := by
  have := compL_map (f := turnC (.one i) [] x e ⟨xs, n⟩) (m := m) f (xs := xs) (acc := []) fun t ht => by
    unfold turnC
    have e1 : bindT (.one i) t e = some (e.set i (some t)) := rfl
    rw [e1]
    dsimp only
    rw [denC_nil, bind_ok, if_pos rfl, h t ht, bind_ok, guardC_st g]
    rfl
  rw [this]
  rfl
@[simp] theorem cutT_lit0 {α : Type} (xs : List α) (n : Nat) : cutT xs none (some (no_index (OfNat.ofNat n) : Int)) = xs.take n := cutT_take xs n
@[simp] theorem cutT_lit1 {α : Type} (xs : List α) (n : Nat) : cutT xs (some (no_index (OfNat.ofNat n) : Int)) none = xs.drop n := cutT_drop xs n
@[simp] theorem cutT_lit2 {α : Type} (xs : List α) (n k : Nat) : cutT xs (some (no_index (OfNat.ofNat n) : Int)) (some (no_index (OfNat.ofNat k) : Int)) = (xs.drop n).take (k - n) := by
  by_cases h : n ≤ k
  · exact cutT_mid xs n k h
  · show cutT xs (some (n : Int)) (some (k : Int)) = _
    have e : k - n = 0 := by omega
    rw [e, List.take_zero]
    unfold cutT HT.sIx
    dsimp only
    rw [if_neg (by omega), if_neg (by omega), Int.toNat_natCast, Int.toNat_natCast]
    have : min k xs.length - min n xs.length = 0 := by omega
    rw [this, List.take_zero]
theorem rng1_w {j : Int} {m : Sto} {K : PR Wk} (h : -1000000 ≤ j) (h2 : j ≤ 16777216) (k : K.ok ⟨rngL 0 j, none⟩ m) : W (rng1T (.int j) m) K := W_eq (rng1T_int m h h2) k
/-- a turn that goes on, whatever comes behind -/
def pKeep (I : Sl → Sto → Prop) : PS := ⟨I, fun _ _ => False, fun _ _ => False, I, fun _ _ _ _ => False⟩
@[simp] theorem pKeep_nx (I : Sl → Sto → Prop) : (pKeep I).nx = I := rfl
@[simp] theorem pKeep_ct (I : Sl → Sto → Prop) : (pKeep I).ct = I := rfl
@[simp] theorem pKeep_rt (I : Sl → Sto → Prop) (t : T) (m : Sto) : (pKeep I).rt t m = False := rfl
@[simp] theorem pKeep_bk (I : Sl → Sto → Prop) (e : Sl) (m : Sto) : (pKeep I).bk e m = False := rfl
@[simp] theorem pKeep_ex (I : Sl → Sto → Prop) (c : Nat) (xs : List T) (e : Sl) (m : Sto) : (pKeep I).ex c xs e m = False := rfl
theorem keep_turn {r : RS} {I : Sl → Sto → Prop} {K : PS} (h : WS r (pKeep I)) : WS r (pTurn I K) := WS_mono h (fun _ _ h => h) (fun _ _ h => h.elim) (fun _ _ h => h.elim) (fun _ _ h => h) (fun _ _ _ _ h => h.elim)
theorem WS_keepk {f : T → Sl → Sto → RS} {K : PS} (I : Sl → Sto → Prop) {xs : List T} {e : Sl} {m : Sto} (h0 : I e m)
    (hs : ∀ x ∈ xs, ∀ e m, I e m → WS (f x e m) (pKeep I)) (hd : ∀ e m, I e m → K.nx e m) : WS (forL f xs e m) K :=
  WS_keep I h0 (fun x hx e m hI => keep_turn (hs x hx e m hI)) hd
/-- a law's end -/
theorem law_fin {f : Fn} {ts : List T} {m : Sto} (h : W (f ts m) (pFin fun t _ => t = .bl true)) : ∃ m', f ts m = .ok (.bl true) m' := by
  obtain ⟨t, m', h1, rfl⟩ := fin_ex h
  exact ⟨m', h1⟩
noncomputable def turnO (o : Option Sl) (cs : List ME) (x : ME) (m : Sto) : Rs (Option T) := match o with
  | some e' => ((denC cs e' m).bind (kT1 x e')).nox
  | none => .bad
@[simp] theorem turnO_some (e' : Sl) (cs : List ME) (x : ME) (m : Sto) : turnO (some e') cs x m = ((denC cs e' m).bind (kT1 x e')).nox := Eq.trans rfl rfl
theorem turnC_opt (g : Tg) (cs : List ME) (x : ME) (e : Sl) (xs : List T) (t : T) (m : Sto) : turnC g cs x e ⟨xs, none⟩ t m = turnO (bindT g t e) cs x m := by
  unfold turnC
  rw [guardC_none]
  unfold turnO
  cases bindT g t e <;> rfl
noncomputable def turnSO (o : Option Sl) (b : List MS) (m : Sto) : RS := match o with
  | some e' => denSs b e' m
  | none => .bad
@[simp] theorem turnSO_some (e' : Sl) (b : List MS) (m : Sto) : turnSO (some e') b m = denSs b e' m := Eq.trans rfl rfl
end BV
namespace NH
open PySem PySem.Spec BV
def tab : List (Str × List Str) := [("HouseError", []), ("NoShape", []), ("NoName", []), ("NoText", ["line"]), ("NoClock", []), ("NoTime", []), ("NoHolder", []), ("NoLease", []), ("Ended", []), ("TooMany", []), ("Wait", ["by"]), ("Empty", []), ("NoNote", []), ("Fallen", []), ("NoRow", []), ("Backward", ["now"]), ("Shape", ["moments", "houses", "counts"]), ("Clock", ["start", "turns"]), ("Let", ["holder", "lease", "end", "is_cut"]), ("Common", ["shape", "lets"]), ("House", ["shape", "ahead", "stride", "keeper", "lease", "mark", "given", "begun", "kept", "fallen"]), ("World", ["clocks", "shape", "ahead", "stride", "common", "notes", "houses", "given", "time"]), ("Stage", ["shape", "common", "houses", "given"]), ("Words", ["some", "at"]), ("Desk", ["world", "shape"])]
/-! is_whole (k01 k02 k03 k04 k05 k06 k11 k12 k13 k14 k15 k16 k17 k18 k21 k22 k23 k24 k25 k26 k27 k28 k31 k32 k33 k34 k41 k42 k43 k44 k51 k53 k54 k71 k72 k73 k74 k75 k76 k77 k78 k82 k83 k84 k85 k86 k87 k88 k89 k90 k91 k92 k93) -/
noncomputable def b_is_whole : List MS := [.ret (.and (.isi (.var 0) .int) (.not (.isi (.var 0) .bool)))]
noncomputable def f_is_whole : Fn := fnK 1 1 b_is_whole
theorem e_is_whole (a0 : T) (m : Sto) : f_is_whole [a0] m = (denSs b_is_whole [some a0] m).out := fnK_eq rfl
/-! Shape.__init__ (k01 k02 k03 k04 k05 k11 k12 k13 k14 k21 k22 k23 k24 k25 k26 k27 k28 k31 k32 k33 k34 k41 k42 k43 k44 k51 k53 k54 k71 k72 k73 k74 k75 k76 k77 k78 k83 k84 k85 k86 k87 k88 k89 k90 k91 k92 k93) -/
/-! _law_draw (k01 k02 k03 k04 k05 k06 k21 k22 k23 k24 k25 k26 k27 k28 k71 k72 k73 k74 k75 k76 k77 k78) -/
/-! _law_far (k01 k02 k03 k04 k05 k06 k21 k22 k23 k24 k25 k26 k27 k28 k71 k72 k73 k74 k75 k76 k77 k78) -/
/-! is_below (k02 k03 k04 k05 k11 k12 k13 k14 k21 k22 k23 k24 k25 k26 k27 k28 k31 k32 k33 k34 k41 k42 k43 k44 k51 k53 k54 k71 k72 k73 k74 k75 k76 k77 k78 k83 k85 k86 k87 k88 k89 k90 k91 k92 k93) -/
noncomputable def b_is_below : List MS := [.ret (.and (.call f_is_whole [.var 0]) (.chn .LtE .Lt (.cst (.int 0)) (.var 0) (.var 1)))]
noncomputable def f_is_below : Fn := fnK 2 2 b_is_below
theorem e_is_below (a0 a1 : T) (m : Sto) : f_is_below [a0, a1] m = (denSs b_is_below [some a0, some a1] m).out := fnK_eq rfl
/-! name_of (k02 k03 k04 k05 k24 k27 k28 k31 k32 k33 k34 k41 k42 k43 k44 k51 k54 k71 k72 k73 k74 k75 k77 k78 k85 k86 k87 k88 k89 k90 k91 k92 k93) -/
/-! parts_of (k02 k03 k04 k05 k11 k12 k13 k14 k24 k27 k28 k31 k32 k33 k34 k41 k42 k43 k44 k51 k53 k54 k71 k72 k73 k74 k75 k76 k77 k78 k83 k85 k86 k87 k88 k89 k90 k91 k92 k93) -/
/-! _law_cell_at (k02 k03 k04 k05 k12 k16 k17 k18 k21 k22 k23 k24 k25 k26 k27 k28 k31 k32 k33 k34 k41 k42 k43 k44 k51 k53 k54 k71 k72 k73 k74 k75 k76 k77 k78 k83 k84 k85 k87 k88 k89 k90 k91 k92 k93) -/
noncomputable def b_l_cell_at : List MS := [.ite (.cmp .Lt (.var 1) (.bi .len [.var 0])) [.ret (.idx (.var 0) (.var 1))] [], .ret (.cst (.int 0))]
noncomputable def f_l_cell_at : Fn := fnK 2 2 b_l_cell_at
theorem e_l_cell_at (a0 a1 : T) (m : Sto) : f_l_cell_at [a0, a1] m = (denSs b_l_cell_at [some a0, some a1] m).out := fnK_eq rfl
/-! _law_shape (k02 k03 k04 k05) -/
/-! _law_parts (k02 k03 k04 k05) -/
/-! names_of (k03 k04 k31 k32 k33 k34 k41 k42 k43 k44 k51 k54 k71 k72 k73 k74 k75 k77 k78 k85 k86 k87 k88 k89 k90 k91 k92 k93) -/
/-! is_holder (k06 k21 k22 k23 k24 k25 k26 k27 k28 k51 k54 k71 k72 k73 k74 k75 k76 k77 k78 k81 k83 k84 k85 k86 k87 k88 k89 k91 k92 k93) -/
def N_is_holder : List Str := ["thing", "sign"]
noncomputable def b_is_holder : List MS := [.ite (.or (.not (.isi (.var 0) .str)) (.or (.cmp .Lt (.bi .len [.var 0]) (.cst (.int 1))) (.cmp .Gt (.bi .len [.var 0]) (.cst (.int 8))))) [.ret (.cst (.bl false))] [], .ret (.bi .all [.comp (.one 1) (.seq (.var 0)) [] (.cmp .In (.var 1) (.cst (.str "abcdefghijklmnopqrstuvwxyz")))])]
noncomputable def f_is_holder : Fn := fnK 1 2 b_is_holder
theorem e_is_holder (a0 : T) (m : Sto) : f_is_holder [a0] m = (denSs b_is_holder [some a0, none] m).out := fnK_eq rfl
/-! many_names (k11 k12 k13 k14 k83 k84 k85 k86 k87 k88 k89) -/
/-! width (k11 k12 k13 k14 k83 k84 k85 k86 k87 k88 k89) -/
/-! show_name (k11 k12 k13 k14 k83 k85 k86 k87 k88 k89) -/
/-! read_name (k11) -/
/-! _law_begin (k11 k12 k13 k14 k15 k16 k17 k18 k81 k82 k83 k84 k85 k86 k87 k88 k89) -/
def N_l_begin_2 : List Str := ["_law_cell"]
noncomputable def b_l_begin_2 : List MS := [.ret (.mut (.lst [.bin .Mult (.bin .FloorDiv (.var 0) (.cst (.int 2))) (.bin .Sub (.cst (.int 1)) (.bin .Mod (.var 0) (.cst (.int 2)))), .bin .Mod (.var 0) (.cst (.int 2147483647)), .cst (.int 0)]))]
noncomputable def f_l_begin_2 : Fn := fnK 1 1 b_l_begin_2
theorem e_l_begin_2 (a0 : T) (m : Sto) : f_l_begin_2 [a0] m = (denSs b_l_begin_2 [some a0] m).out := fnK_eq rfl
/-! _law_next (k11 k12 k13 k14 k17 k83 k84 k85 k86 k87 k88 k89) -/
noncomputable def b_l_next : List MS := [.ite (.cmp .Gt (.idx (.var 0) (.cst (.int 0))) (.cst (.int 0))) [.set 2 (.bin .Mod (.idx (.var 0) (.cst (.int 0))) (.var 1)), .sub (.var 0) (.cst (.int 0)) (.bin .FloorDiv (.idx (.var 0) (.cst (.int 0))) (.var 1)), .ret (.var 2)] [], .sub (.var 0) (.cst (.int 2)) (.bin .Add (.idx (.var 0) (.cst (.int 2))) (.cst (.int 1))), .set 3 (.bin .Mod (.bin .Mult (.bin .Add (.bin .Add (.idx (.var 0) (.cst (.int 1))) (.bin .Mult (.cst (.int 7919)) (.idx (.var 0) (.cst (.int 2))))) (.cst (.int 1))) (.cst (.int 48271))) (.cst (.int 2147483647))), .set 3 (.bin .Mod (.bin .Mult (.var 3) (.bin .Add (.bin .FloorDiv (.var 3) (.cst (.int 1009))) (.cst (.int 69621)))) (.cst (.int 2147483647))), .set 3 (.bin .Mod (.bin .Mult (.var 3) (.bin .Add (.bin .FloorDiv (.var 3) (.cst (.int 2003))) (.cst (.int 40692)))) (.cst (.int 2147483399))), .ret (.bin .Mod (.bin .FloorDiv (.var 3) (.cst (.int 7))) (.var 1))]
noncomputable def f_l_next : Fn := fnK 2 4 b_l_next
/-! _law_big (k11 k12 k13 k14 k83 k84) -/
/-! _law_shape (k11 k12 k13 k14 k83 k84) -/
/-! _law_name (k11 k12 k13 k14 k83 k84) -/
/-! _law_width (k11 k13 k14 k83 k84 k85 k88) -/
/-! _law_text (k11 k13 k14 k83 k84) -/
/-! read_name (k13 k14 k83 k84 k85 k86 k87 k88 k89) -/
/-! show_stretch (k13) -/
/-! read_stretch (k13) -/
/-! is_turn (k15 k16 k17 k18 k51 k54 k78 k82 k85 k86 k87 k88 k89 k91 k92 k93) -/
/-! are_turns (k15 k16 k17 k18 k51 k54 k78 k82 k85 k86 k87 k88 k89 k91 k92 k93) -/
/-! sure_time (k15 k16 k17 k18 k51 k54 k78 k82 k85 k86 k87 k88 k89 k91 k92 k93) -/
/-! Clock.__init__ (k15 k16 k17 k18 k51 k54 k78 k82 k85 k86 k87 k88 k89 k91 k92 k93) -/
/-! Clock.reading (k15 k16 k17 k18 k51 k54 k78 k82 k85 k86 k87 k88 k89 k91 k92 k93) -/
/-! borders (k15 k17 k18 k54) -/
/-! apart (k15 k17 k18 k54) -/
/-! _law_next (k15 k16 k18 k81 k82) -/
def N_l_next_2 : List Str := ["_law_state", "_law_base", "_law_found", "_law_number_here"]
noncomputable def b_l_next_2 : List MS := [.ite (.cmp .Gt (.idx (.var 0) (.cst (.int 0))) (.cst (.int 0))) [.set 2 (.bin .Mod (.idx (.var 0) (.cst (.int 0))) (.var 1)), .sub (.var 0) (.cst (.int 0)) (.bin .FloorDiv (.idx (.var 0) (.cst (.int 0))) (.var 1)), .ret (.var 2)] [], .sub (.var 0) (.cst (.int 2)) (.bin .Add (.idx (.var 0) (.cst (.int 2))) (.cst (.int 1))), .set 3 (.bin .Mod (.bin .Mult (.bin .Add (.bin .Add (.idx (.var 0) (.cst (.int 1))) (.bin .Mult (.cst (.int 7919)) (.idx (.var 0) (.cst (.int 2))))) (.cst (.int 1))) (.cst (.int 48271))) (.cst (.int 2147483647))), .set 3 (.bin .Mod (.bin .Mult (.var 3) (.bin .Add (.bin .FloorDiv (.var 3) (.cst (.int 1009))) (.cst (.int 69621)))) (.cst (.int 2147483647))), .set 3 (.bin .Mod (.bin .Mult (.var 3) (.bin .Add (.bin .FloorDiv (.var 3) (.cst (.int 2003))) (.cst (.int 40692)))) (.cst (.int 2147483399))), .ret (.bin .Mod (.bin .FloorDiv (.var 3) (.cst (.int 7))) (.var 1))]
noncomputable def f_l_next_2 : Fn := fnK 2 4 b_l_next_2
theorem e_l_next_2 (a0 a1 : T) (m : Sto) : f_l_next_2 [a0, a1] m = (denSs b_l_next_2 [some a0, some a1, none, none] m).out := fnK_eq rfl
/-! _law_number (k15 k16 k18 k81) -/
def N_l_number : List Str := ["_law_state", "_law_small", "_law_far"]
noncomputable def b_l_number : List MS := [.set 1 (.bin .Sub (.call f_l_next_2 [.var 0, .cst (.int 200)]) (.cst (.int 100))), .ite (.cmp .Gt (.call f_l_next_2 [.var 0, .cst (.int 3)]) (.cst (.int 0))) [.ret (.var 1)] [], .set 2 (.bin .Add (.bin .Mult (.call f_l_next_2 [.var 0, .bin .Pow (.cst (.int 10)) (.cst (.int 6))]) (.bin .Pow (.cst (.int 10)) (.cst (.int 6)))) (.call f_l_next_2 [.var 0, .bin .Pow (.cst (.int 10)) (.cst (.int 6))])), .ret (.bin .Mult (.var 2) (.bin .Sub (.cst (.int 1)) (.bin .Mult (.cst (.int 2)) (.call f_l_next_2 [.var 0, .cst (.int 2)]))))]
noncomputable def f_l_number : Fn := fnK 1 3 b_l_number
theorem e_l_number (a0 : T) (m : Sto) : f_l_number [a0] m = (denSs b_l_number [some a0, none, none] m).out := fnK_eq rfl
/-! _law_reads (k17 k18) -/
/-! Let.__init__ (k21 k22 k23 k24 k25 k26 k27 k28 k51 k54 k71 k72 k73 k74 k75 k77 k78 k85 k86 k87 k88 k89 k91 k92 k93) -/
/-! Let.overlaps (k21 k22 k23 k24 k25 k26 k27 k28 k51 k54 k71 k72 k73 k74 k75 k77 k78 k85 k86 k87 k88 k89 k91 k92 k93) -/
/-! Common.__init__ (k21 k22 k23 k24 k25 k26 k27 k28 k51 k54 k71 k72 k73 k74 k75 k77 k78 k85 k86 k87 k88 k89 k91 k92 k93) -/
/-! Common.ends_of (k21 k22 k23 k24 k25 k26 k27 k28 k51 k54 k71 k72 k73 k74 k75 k77 k78 k85 k86 k87 k88 k89 k91 k92 k93) -/
/-! Common.free_begin (k21 k22 k23 k24 k25 k26 k27 k28 k51 k54 k71 k72 k73 k74 k75 k77 k78 k85 k86 k87 k88 k89 k91 k92 k93) -/
/-! Common.free_house (k21 k22 k23 k24 k25 k26 k27 k28 k51 k54 k71 k72 k73 k74 k75 k77 k78 k85 k86 k87 k88 k89 k91 k92 k93) -/
/-! Common.cut (k21 k22 k23 k24 k25 k26 k27 k28 k51 k54 k78 k85 k86 k87 k88 k89 k91 k92 k93) -/
/-! _law_far_moment (k21 k22) -/
/-! _law_is_free (k21 k22) -/
/-! Common.let (k21 k22 k23 k24 k25 k26 k27 k28 k51 k54 k71 k72 k73 k74 k75 k77 k78 k85 k86 k87 k88 k89 k91 k92 k93) -/
/-! _law_let (k21 k22 k23 k25 k26 k27 k28) -/
/-! Let.told (k22 k23 k24 k25 k26 k27 k28 k51 k85 k86 k87 k88 k89 k91 k93) -/
/-! Common.leases (k22 k24 k25 k26 k27 k28 k51 k85 k86 k87 k88 k89 k91 k93) -/
/-! Common.leases (k23) -/
/-! _law_far_moment (k23 k24 k25 k26 k27 k28) -/
/-! _law_book (k23 k24 k25 k26 k27 k28) -/
/-! _law_deed (k23 k25 k27 k28) -/
/-! Let.has (k24 k27 k28 k85 k86 k87 k88 k89 k91) -/
/-! Common.holder_of (k24 k27 k28 k85 k86 k87 k88 k89 k91) -/
/-! is_lease (k31 k32 k33 k34 k41 k42 k43 k44 k51 k54 k71 k72 k73 k74 k75 k77 k78 k85 k86 k87 k88 k89 k90 k91 k92 k93) -/
/-! is_note (k31 k32 k33 k34 k41 k42 k43 k44 k51 k54 k71 k72 k73 k74 k75 k77 k78 k85 k86 k87 k88 k89 k90 k91 k92 k93) -/
/-! House.__init__ (k31 k32 k33 k34 k41 k42 k43 k44 k51 k54 k71 k72 k73 k74 k75 k77 k78 k85 k86 k87 k88 k89 k90 k91 k92 k93) -/
/-! House.stand (k31 k32 k33 k34 k41 k42 k43 k44 k51 k54 k71 k72 k73 k74 k75 k77 k78 k85 k86 k87 k88 k89 k90 k91 k92 k93) -/
/-! House.note (k31 k34 k42 k44 k90) -/
/-! House.last (k31 k32 k33 k34 k41 k42 k44 k90) -/
/-! House.keep (k31 k32 k33 k34 k41 k42 k43 k44 k51 k54 k71 k72 k73 k74 k75 k77 k78 k85 k86 k87 k88 k89 k90 k91 k92 k93) -/
/-! House.take_lease (k31 k32 k33 k34 k41 k42 k43 k44 k51 k54 k71 k72 k73 k74 k75 k77 k78 k85 k86 k87 k88 k89 k90 k91 k92 k93) -/
/-! House.above (k31 k32 k33 k34 k41 k42 k43 k44 k51 k54 k71 k72 k73 k74 k75 k77 k78 k85 k86 k87 k88 k89 k90 k91 k92 k93) -/
/-! House.first_behind (k31 k32 k33 k34 k41 k42 k43 k44 k51 k54 k71 k72 k73 k74 k75 k77 k78 k85 k86 k87 k88 k89 k90 k91 k92 k93) -/
/-! House.names_for (k31 k32 k33 k34 k41 k42 k43 k44 k51 k54 k71 k72 k73 k74 k75 k77 k78 k85 k86 k87 k88 k89 k90 k91 k92 k93) -/
/-! House.moment_of (k31 k32 k33 k34 k41 k42 k43 k44 k51 k54 k71 k72 k73 k74 k75 k77 k78 k85 k86 k87 k88 k89 k90 k91 k92 k93) -/
/-! House.made_ready (k31 k32 k33 k34 k41 k42 k43 k44 k51 k54 k71 k72 k73 k74 k75 k77 k78 k85 k86 k87 k88 k89 k90 k91 k92 k93) -/
/-! House.ask (k31 k32 k33 k34 k41 k42 k43 k44 k51 k54 k71 k72 k73 k74 k75 k77 k78 k85 k86 k87 k88 k89 k90 k91 k92 k93) -/
/-! House.store (k31 k34 k41 k42 k43 k44 k51 k54 k78 k85 k86 k87 k88 k89 k90 k91 k92 k93) -/
/-! House.take (k31 k34 k41 k42 k43 k44 k51 k54 k78 k85 k86 k87 k88 k89 k90 k91 k92 k93) -/
/-! House.give_back (k31 k42 k43 k44 k51 k54 k78 k85 k86 k87 k88 k89 k90 k91 k92 k93) -/
/-! _law_mixed (k31 k32 k33 k34 k41 k42 k43 k44 k51 k53 k54 k90 k91 k92 k93) -/
/-! _law_digits (k31 k32 k33 k34 k41 k42 k43 k44 k51 k53 k54 k90 k91 k92 k93) -/
/-! _law_next (k31 k32 k33 k34 k41 k42 k43 k44 k51 k53 k54 k90 k91 k92 k93) -/
/-! _law_shape (k31 k33 k53 k90) -/
/-! _law_parts (k33 k90) -/
/-! _law_after (k33 k90) -/
/-! _law_names (k33 k90) -/
/-! _law_drawn_lease (k33 k90) -/
/-! _law_kth (k41 k42) -/
/-! World.book (k51 k54 k78 k85 k86 k87 k88 k89 k91 k92 k93) -/
/-! World.leases (k51 k85 k86 k87 k88 k89 k91 k93) -/
/-! back_by (k53 k54 k85 k86 k87 k88 k89 k92) -/
/-! meeting (k54) -/
/-! _law_drawn_clock (k54 k91 k92 k93) -/
/-! _law_reading (k54 k91 k92 k93) -/
/-! keep_nothing (k71 k72 k73 k74 k75 k77 k78) -/
/-! Stage.__init__ (k71 k72 k73 k74 k75 k77 k78) -/
/-! Stage.house_of (k71 k72 k73 k74 k75 k77 k78) -/
/-! is_row (k71 k72 k73 k74 k75 k77 k78) -/
/-! _law_run_shape (k71 k72 k73 k75) -/
/-! _law_ask_row (k71 k72 k73 k75) -/
/-! Stage.play (k71 k72 k73 k74 k75 k77 k78) -/
/-! played (k71 k72 k73 k74 k75 k77 k78) -/
/-! _law_lease_row (k71 k72 k73 k75) -/
/-! _law_run (k71 k72 k73 k75) -/
/-! is_book (k73 k74 k75 k76 k77 k78 k85 k86 k87 k88 k89) -/
/-! stand_together (k73 k74 k75 k76 k77 k78 k85 k86 k87 k88 k89) -/
/-! wrong_pair (k73 k74 k75 k76 k77 k78 k85 k86 k87 k88 k89) -/
/-! run_of (k73 k74 k75 k76 k77 k78 k85 k86 k87 k88 k89) -/
/-! judge (k73 k74 k75 k76 k77 k78 k85 k86 k87 k88 k89) -/
/-! _law_within (k73 k75) -/
/-! _law_is_right (k73 k75) -/
/-! _law_within (k74 k77) -/
/-! _law_is_right (k74 k77) -/
/-! text_unless (k81 k82 k83 k84 k85 k86 k87 k88 k89) -/
def N_text_unless_2 : List Str := ["good"]
noncomputable def b_text_unless_2 : List MS := [.ite (.not (.var 0)) [.rse 3 [.cst (.int 0)]] []]
noncomputable def f_text_unless_2 : Fn := fnK 1 1 b_text_unless_2
theorem e_text_unless_2 (a0 : T) (m : Sto) : f_text_unless_2 [a0] m = (denSs b_text_unless_2 [some a0] m).out := fnK_eq rfl
/-! number_of (k81 k82 k85 k86 k87 k88 k89) -/
def N_number_of_2 : List Str := ["word", "figures", "sign"]
noncomputable def b_number_of_2 : List MS := [.set 1 (.var 0), .ite (.sm .starts (.var 0) [.cst (.str "-")]) [.set 1 (.slc (.var 0) (some (.cst (.int 1))) none)] [], .expr (.call f_text_unless_2 [.and (.chn .LtE .LtE (.cst (.int 1)) (.bi .len [.var 1]) (.cst (.int 40))) (.bi .all [.comp (.one 2) (.seq (.var 1)) [] (.cmp .In (.var 2) (.cst (.str "0123456789")))])]), .expr (.call f_text_unless_2 [.or (.cmp .NotEq (.idx (.var 1) (.cst (.int 0))) (.cst (.str "0"))) (.cmp .Eq (.var 0) (.cst (.str "0")))]), .ret (.bi .int [.var 0])]
noncomputable def f_number_of_2 : Fn := fnK 1 3 b_number_of_2
theorem e_number_of_2 (a0 : T) (m : Sto) : f_number_of_2 [a0] m = (denSs b_number_of_2 [some a0, none, none] m).out := fnK_eq rfl
/-! Words.__init__ (k81 k82 k83 k84 k85 k86 k87 k88 k89) -/
def N_Words_init_2 : List Str := ["self", "text"]
noncomputable def b_Words_init_2 : List MS := [.expr (.call f_text_unless_2 [.isi (.var 1) .str]), .fset [(23, 0)] (.var 0) (.sm .split (.var 1) [.cst (.str " ")]), .fset [(23, 1)] (.var 0) (.cst (.int 0))]
noncomputable def f_Words_init_2 : Fn := fnK 2 2 b_Words_init_2
theorem e_Words_init_2 (a0 a1 : T) (m : Sto) : f_Words_init_2 [a0, a1] m = (denSs b_Words_init_2 [some a0, some a1] m).out := fnK_eq rfl
/-! Words.next_word (k81 k82 k83 k84 k85 k86 k87 k88 k89) -/
def N_Words_next_word : List Str := ["self"]
noncomputable def b_Words_next_word : List MS := [.expr (.call f_text_unless_2 [.cmp .Lt (.fld [(23, 1)] (.var 0)) (.bi .len [.fld [(23, 0)] (.var 0)])]), .faug [(23, 1)] (.var 0) (.cst (.int 1)), .ret (.idx (.fld [(23, 0)] (.var 0)) (.bin .Sub (.fld [(23, 1)] (.var 0)) (.cst (.int 1))))]
noncomputable def f_Words_next_word : Fn := fnK 1 1 b_Words_next_word
theorem e_Words_next_word (a0 : T) (m : Sto) : f_Words_next_word [a0] m = (denSs b_Words_next_word [some a0] m).out := fnK_eq rfl
/-! Words.one_of (k81 k82 k85 k86 k87 k88 k89) -/
def N_Words_one_of : List Str := ["self", "words", "word"]
noncomputable def b_Words_one_of : List MS := [.set 2 (.meth [(23, f_Words_next_word)] (.var 0) []), .expr (.call f_text_unless_2 [.cmp .In (.var 2) (.var 1)]), .ret (.var 2)]
noncomputable def f_Words_one_of : Fn := fnK 2 3 b_Words_one_of
theorem e_Words_one_of (a0 a1 : T) (m : Sto) : f_Words_one_of [a0, a1] m = (denSs b_Words_one_of [some a0, some a1, none] m).out := fnK_eq rfl
/-! Words.next_number (k81 k82 k85 k86 k87 k88 k89) -/
def N_Words_next_number : List Str := ["self"]
noncomputable def b_Words_next_number : List MS := [.ret (.call f_number_of_2 [.meth [(23, f_Words_next_word)] (.var 0) []])]
noncomputable def f_Words_next_number : Fn := fnK 1 1 b_Words_next_number
theorem e_Words_next_number (a0 : T) (m : Sto) : f_Words_next_number [a0] m = (denSs b_Words_next_number [some a0] m).out := fnK_eq rfl
/-! Words.next_holder (k81 k83 k84 k85 k86 k87 k88 k89) -/
def N_Words_next_holder : List Str := ["self", "word"]
noncomputable def b_Words_next_holder : List MS := [.set 1 (.meth [(23, f_Words_next_word)] (.var 0) []), .expr (.call f_text_unless_2 [.call f_is_holder [.var 1]]), .ret (.var 1)]
noncomputable def f_Words_next_holder : Fn := fnK 1 2 b_Words_next_holder
theorem e_Words_next_holder (a0 : T) (m : Sto) : f_Words_next_holder [a0] m = (denSs b_Words_next_holder [some a0, none] m).out := fnK_eq rfl
/-! Words.close (k81 k82 k85 k86 k87 k88 k89) -/
def N_Words_close_2 : List Str := ["self"]
noncomputable def b_Words_close_2 : List MS := [.expr (.call f_text_unless_2 [.cmp .Eq (.fld [(23, 1)] (.var 0)) (.bi .len [.fld [(23, 0)] (.var 0)])])]
noncomputable def f_Words_close_2 : Fn := fnK 1 1 b_Words_close_2
theorem e_Words_close_2 (a0 : T) (m : Sto) : f_Words_close_2 [a0] m = (denSs b_Words_close_2 [some a0] m).out := fnK_eq rfl
/-! show_part (k81) -/
def N_show_part : List Str := ["part"]
noncomputable def b_show_part : List MS := [.ite (.cmp .Is (.var 0) (.cst .non)) [.ret (.cst (.str "any"))] [], .ret (.bi .str [.var 0])]
noncomputable def f_show_part : Fn := fnK 1 1 b_show_part
theorem e_show_part (a0 : T) (m : Sto) : f_show_part [a0] m = (denSs b_show_part [some a0] m).out := fnK_eq rfl
/-! show_row (k81) -/
def N_show_row : List Str := ["row", "part"]
noncomputable def b_show_row : List MS := [.ret (.sm .join (.cst (.str " ")) [.comp (.one 1) (.seq (.var 0)) [] (.call f_show_part [.var 1])])]
noncomputable def f_show_row : Fn := fnK 1 2 b_show_row
theorem e_show_row (a0 : T) (m : Sto) : f_show_row [a0] m = (denSs b_show_row [some a0, none] m).out := fnK_eq rfl
/-! house_in (k81 k85 k86 k87 k88 k89) -/
def N_house_in : List Str := ["words", "word"]
noncomputable def b_house_in : List MS := [.set 1 (.meth [(23, f_Words_next_word)] (.var 0) []), .ite (.cmp .Eq (.var 1) (.cst (.str "any"))) [.ret (.cst .non)] [], .ret (.call f_number_of_2 [.var 1])]
noncomputable def f_house_in : Fn := fnK 1 2 b_house_in
theorem e_house_in (a0 : T) (m : Sto) : f_house_in [a0] m = (denSs b_house_in [some a0, none] m).out := fnK_eq rfl
/-! Words.rest (k83 k84 k85 k86 k87 k88 k89) -/
/-! show_book (k83 k85 k86 k87 k88 k89) -/
/-! read_line (k83 k84 k85 k86 k87 k88 k89) -/
/-! read_book (k83) -/
/-! _law_holder (k83 k84) -/
def N_l_holder : List Str := ["_law_state", "_law_letters", "_law_way", "_law_some", "_law_word", "_law_at", "_law_k"]
noncomputable def b_l_holder : List MS := [.set 1 (.cst (.str "abcdefghijklmnopqrstuvwxyz")), .set 2 (.call f_l_next [.var 0, .cst (.int 4)]), .ite (.cmp .Eq (.var 2) (.cst (.int 0))) [.set 3 (.lst [.cst (.str "any"), .cst (.str "lease"), .cst (.str "ask"), .cst (.str "store"), .cst (.str "take"), .cst (.str "back"), .cst (.str "fall"), .cst (.str "bare"), .cst (.str "runs"), .cst (.str "stands"), .cst (.str "world"), .cst (.str "judge")]), .ret (.idx (.bin .Add (.var 3) (.lst [.cst (.str "who"), .cst (.str "tell"), .cst (.str "book"), .cst (.str "z")])) (.call f_l_next [.var 0, .cst (.int 16)]))] [], .ite (.cmp .Eq (.var 2) (.cst (.int 1))) [.set 4 (.slc (.cst (.str "bcdefghi")) none (some (.bin .Add (.cst (.int 1)) (.call f_l_next [.var 0, .cst (.int 8)])))), .set 5 (.call f_l_next [.var 0, .bi .len [.var 4]]), .ret (.bin .Add (.bin .Add (.slc (.var 4) none (some (.var 5))) (.idx (.cst (.str "axz")) (.call f_l_next [.var 0, .cst (.int 3)]))) (.slc (.var 4) (some (.bin .Add (.var 5) (.cst (.int 1)))) none))] [], .ret (.sm .join (.cst (.str "")) [.comp (.one 6) (.rng1 (.bin .Add (.cst (.int 1)) (.call f_l_next [.var 0, .cst (.int 8)]))) [] (.idx (.var 1) (.call f_l_next [.var 0, .cst (.int 26)]))])]
noncomputable def f_l_holder : Fn := fnK 1 7 b_l_holder
theorem e_l_holder (a0 : T) (m : Sto) : f_l_holder [a0] m = (denSs b_l_holder [some a0, none, none, none, none, none, none] m).out := fnK_eq rfl
/-! read_book (k84 k85 k86 k87 k88 k89) -/
/-! World.holder_of (k85 k86 k87 k88 k89 k91) -/
/-! joined (k85 k86 k87 k88 k89) -/
/-! Desk.__init__ (k85 k86 k87 k88 k89) -/
/-! Desk.names_told (k85 k86 k87 k88 k89) -/
/-! Desk.rows_of_book (k85 k86 k87 k88 k89) -/
/-! Desk.judged (k85 k86 k87 k88 k89) -/
/-! _law_clock (k85 k88 k89) -/
/-! _law_clock_text (k85 k89) -/
/-! _law_begun (k85 k88 k89) -/
/-! _law_world_row (k85 k89) -/
/-! _law_row (k85 k88 k89) -/
def N_l_row : List Str := ["_law_state", "_law_time", "_law_begun_here", "_law_sizes", "_law_kind", "_law_holder", "_law_house"]
noncomputable def b_l_row : List MS := [.set 3 (.idx (.var 2) (.cst (.int 0))), .set 4 (.call f_l_next [.var 0, .cst (.int 12)]), .set 1 (.bin .Add (.var 1) (.idx (.lst [.cst (.int 0), .call f_l_next [.var 0, .cst (.int 8)], .call f_l_next [.var 0, .cst (.int 60)]]) (.call f_l_next [.var 0, .cst (.int 3)]))), .set 5 (.idx (.idx (.idx (.var 2) (.cst (.int 1))) (.call f_l_next [.var 0, .bi .len [.idx (.var 2) (.cst (.int 1))]])) (.cst (.int 0))), .ite (.cmp .Lt (.var 4) (.cst (.int 3))) [.set 6 (.idx (.lst [.cst .non, .call f_l_next [.var 0, .bin .Add (.idx (.var 3) (.cst (.int 1))) (.cst (.int 1))]]) (.call f_l_next [.var 0, .cst (.int 2)])), .ret (.tup [.cst (.str "lease"), .var 1, .var 5, .var 6, .bin .Add (.cst (.int 1)) (.call f_l_next [.var 0, .cst (.int 90)])])] [], .ite (.cmp .Lt (.var 4) (.cst (.int 9))) [.ret (.tup [.idx (.lst [.cst (.str "ask"), .cst (.str "store"), .cst (.str "take")]) (.bin .Mod (.var 4) (.cst (.int 3))), .var 1, .var 5, .bin .Add (.cst (.int 1)) (.call f_l_next [.var 0, .bin .Add (.idx (.var 3) (.cst (.int 2))) (.cst (.int 1))])])] [], .ret (.tup [.idx (.lst [.cst (.str "back"), .cst (.str "fall"), .cst (.str "bare")]) (.bin .Sub (.var 4) (.cst (.int 9))), .var 1, .var 5])]
noncomputable def f_l_row : Fn := fnK 3 7 b_l_row
theorem e_l_row (a0 a1 a2 : T) (m : Sto) : f_l_row [a0, a1, a2] m = (denSs b_l_row [some a0, some a1, some a2, none, none, none, none] m).out := fnK_eq rfl
/-! _law_row_text (k85 k88 k89) -/
/-! _law_text (k85 k88) -/
/-! Desk.answered (k85 k86 k87 k88 k89) -/
end NH
namespace K81
open PySem PySem.Spec L2 He BV PyProof.Rows
/-! read_row -/
def N_read_row : List Str := ["text", "words", "word", "row"]
noncomputable def b_read_row : List MS := [.set 1 (.mk 23 NH.f_Words_init_2 [.var 0]), .set 2 (.meth [(23, NH.f_Words_one_of)] (.var 1) [.bin .Add (.bin .Add (.tup [.cst (.str "lease")]) (.cst (.tup [.str "ask", .str "store", .str "take"]))) (.cst (.tup [.str "back", .str "fall", .str "bare"]))]), .set 3 (.tup [.var 2, .meth [(23, NH.f_Words_next_number)] (.var 1) [], .meth [(23, NH.f_Words_next_holder)] (.var 1) []]), .ite (.cmp .Eq (.var 2) (.cst (.str "lease"))) [.set 3 (.bin .Add (.var 3) (.tup [.call NH.f_house_in [.var 1], .meth [(23, NH.f_Words_next_number)] (.var 1) []]))] [], .ite (.cmp .In (.var 2) (.cst (.tup [.str "ask", .str "store", .str "take"]))) [.set 3 (.bin .Add (.var 3) (.tup [.meth [(23, NH.f_Words_next_number)] (.var 1) []]))] [], .expr (.meth [(23, NH.f_Words_close_2)] (.var 1) []), .ret (.var 3)]
noncomputable def f_read_row : Fn := fnK 1 4 b_read_row
theorem e_read_row (a0 : T) (m : Sto) : f_read_row [a0] m = (denSs b_read_row [some a0, none, none, none] m).out := fnK_eq rfl
/-! _law_holder -/
def N_l_holder : List Str := ["_law_state", "_law_letters", "_law_way", "_law_some", "_law_word", "_law_at", "_law_k"]
noncomputable def b_l_holder : List MS := [.set 1 (.cst (.str "abcdefghijklmnopqrstuvwxyz")), .set 2 (.call NH.f_l_next_2 [.var 0, .cst (.int 4)]), .ite (.cmp .Eq (.var 2) (.cst (.int 0))) [.set 3 (.lst [.cst (.str "any"), .cst (.str "lease"), .cst (.str "ask"), .cst (.str "store"), .cst (.str "take"), .cst (.str "back"), .cst (.str "fall"), .cst (.str "bare"), .cst (.str "runs"), .cst (.str "stands"), .cst (.str "world"), .cst (.str "judge")]), .ret (.idx (.bin .Add (.var 3) (.lst [.cst (.str "who"), .cst (.str "tell"), .cst (.str "book"), .cst (.str "z")])) (.call NH.f_l_next_2 [.var 0, .cst (.int 16)]))] [], .ite (.cmp .Eq (.var 2) (.cst (.int 1))) [.set 4 (.slc (.cst (.str "bcdefghi")) none (some (.bin .Add (.cst (.int 1)) (.call NH.f_l_next_2 [.var 0, .cst (.int 8)])))), .set 5 (.call NH.f_l_next_2 [.var 0, .bi .len [.var 4]]), .ret (.bin .Add (.bin .Add (.slc (.var 4) none (some (.var 5))) (.idx (.cst (.str "axz")) (.call NH.f_l_next_2 [.var 0, .cst (.int 3)]))) (.slc (.var 4) (some (.bin .Add (.var 5) (.cst (.int 1)))) none))] [], .ret (.sm .join (.cst (.str "")) [.comp (.one 6) (.rng1 (.bin .Add (.cst (.int 1)) (.call NH.f_l_next_2 [.var 0, .cst (.int 8)]))) [] (.idx (.var 1) (.call NH.f_l_next_2 [.var 0, .cst (.int 26)]))])]
noncomputable def f_l_holder : Fn := fnK 1 7 b_l_holder
theorem e_l_holder (a0 : T) (m : Sto) : f_l_holder [a0] m = (denSs b_l_holder [some a0, none, none, none, none, none, none] m).out := fnK_eq rfl
/-! _law_row -/
def N_l_row : List Str := ["_law_state", "_law_word", "_law_row_here"]
noncomputable def b_l_row : List MS := [.set 1 (.idx (.lst [.cst (.str "lease"), .cst (.str "ask"), .cst (.str "store"), .cst (.str "take"), .cst (.str "back"), .cst (.str "fall"), .cst (.str "bare"), .cst (.str "lease")]) (.call NH.f_l_next_2 [.var 0, .cst (.int 8)])), .set 2 (.tup [.var 1, .call NH.f_l_number [.var 0], .call f_l_holder [.var 0]]), .ite (.cmp .Eq (.var 1) (.cst (.str "lease"))) [.ret (.bin .Add (.var 2) (.tup [.idx (.lst [.cst .non, .call NH.f_l_number [.var 0]]) (.call NH.f_l_next_2 [.var 0, .cst (.int 2)]), .call NH.f_l_number [.var 0]]))] [], .ite (.cmp .In (.var 1) (.tup [.cst (.str "ask"), .cst (.str "store"), .cst (.str "take")])) [.ret (.bin .Add (.var 2) (.tup [.call NH.f_l_number [.var 0]]))] [], .ret (.var 2)]
noncomputable def f_l_row : Fn := fnK 1 3 b_l_row
theorem e_l_row (a0 : T) (m : Sto) : f_l_row [a0] m = (denSs b_l_row [some a0, none, none] m).out := fnK_eq rfl
/-! _law_words -/
def N_l_words : List Str := ["_law_row_here", "_law_part"]
noncomputable def b_l_words : List MS := [.ret (.comp (.one 1) (.seq (.var 0)) [] (.idx (.lst [.bi .str [.var 1], .cst (.str "any")]) (.bi .int [.cmp .Is (.var 1) (.cst .non)])))]
noncomputable def f_l_words : Fn := fnK 1 2 b_l_words
theorem e_l_words (a0 : T) (m : Sto) : f_l_words [a0] m = (denSs b_l_words [some a0, none] m).out := fnK_eq rfl
/-! _law_number_of -/
def N_l_number_of : List Str := ["_law_word", "_law_figures", "_law_sign"]
noncomputable def b_l_number_of : List MS := [.set 1 (.var 0), .ite (.cmp .Eq (.slc (.var 0) none (some (.cst (.int 1)))) (.cst (.str "-"))) [.set 1 (.slc (.var 0) (some (.cst (.int 1))) none)] [], .ite (.or (.cmp .Eq (.var 1) (.cst (.str ""))) (.or (.cmp .Gt (.bi .len [.var 1]) (.cst (.int 40))) (.cmp .NotEq (.comp (.one 2) (.seq (.var 1)) [.cmp .NotIn (.var 2) (.cst (.str "0123456789"))] (.var 2)) (.lst [])))) [.ret (.cst .non)] [], .ite (.and (.cmp .Eq (.idx (.var 1) (.cst (.int 0))) (.cst (.str "0"))) (.cmp .NotEq (.var 0) (.cst (.str "0")))) [.ret (.cst .non)] [], .ret (.bi .int [.var 0])]
noncomputable def f_l_number_of : Fn := fnK 1 3 b_l_number_of
theorem e_l_number_of (a0 : T) (m : Sto) : f_l_number_of [a0] m = (denSs b_l_number_of [some a0, none, none] m).out := fnK_eq rfl
/-! _law_is_holder -/
def N_l_is_holder : List Str := ["_law_word", "_law_sign"]
noncomputable def b_l_is_holder : List MS := [.ret (.and (.chn .LtE .LtE (.cst (.int 1)) (.bi .len [.var 0]) (.cst (.int 8))) (.cmp .Eq (.comp (.one 1) (.seq (.var 0)) [.cmp .NotIn (.var 1) (.cst (.str "abcdefghijklmnopqrstuvwxyz"))] (.var 1)) (.lst [])))]
noncomputable def f_l_is_holder : Fn := fnK 1 2 b_l_is_holder
theorem e_l_is_holder (a0 : T) (m : Sto) : f_l_is_holder [a0] m = (denSs b_l_is_holder [some a0, none] m).out := fnK_eq rfl
/-! _law_due -/
def N_l_due : List Str := ["_law_words_here", "_law_many", "_law_numbers", "_law_word", "_law_row_here"]
noncomputable def b_l_due : List MS := [.set 1 (.bm [.dget2] (.dnew [.cst (.str "lease"), .cst (.int 5), .cst (.str "ask"), .cst (.int 4), .cst (.str "store"), .cst (.int 4), .cst (.str "take"), .cst (.int 4), .cst (.str "back"), .cst (.int 3), .cst (.str "fall"), .cst (.int 3), .cst (.str "bare"), .cst (.int 3)]) [.idx (.bin .Add (.var 0) (.lst [.cst (.str "")])) (.cst (.int 0)), .cst (.int 0)]), .ite (.or (.cmp .Eq (.var 1) (.cst (.int 0))) (.or (.cmp .NotEq (.bi .len [.var 0]) (.var 1)) (.not (.call f_l_is_holder [.idx (.var 0) (.cst (.int 2))])))) [.ret (.cst .non)] [], .set 2 (.mut (.comp (.one 3) (.seq (.bin .Add (.slc (.var 0) (some (.cst (.int 1))) (some (.cst (.int 2)))) (.slc (.var 0) (some (.cst (.int 3))) none))) [] (.call f_l_number_of [.var 3]))), .ite (.and (.cmp .Eq (.var 1) (.cst (.int 5))) (.cmp .Eq (.idx (.var 0) (.cst (.int 3))) (.cst (.str "any")))) [.sub (.var 2) (.cst (.int 1)) (.cst (.str "any"))] [], .ite (.cmp .In (.cst .non) (.var 2)) [.ret (.cst .non)] [], .set 4 (.bin .Add (.tup [.idx (.var 0) (.cst (.int 0)), .idx (.var 2) (.cst (.int 0)), .idx (.var 0) (.cst (.int 2))]) (.bi .tuple [.slc (.var 2) (some (.cst (.int 1))) none])), .ite (.and (.cmp .Eq (.var 1) (.cst (.int 5))) (.cmp .Eq (.idx (.var 0) (.cst (.int 3))) (.cst (.str "any")))) [.set 4 (.bin .Add (.bin .Add (.slc (.var 4) none (some (.cst (.int 3)))) (.tup [.cst .non])) (.slc (.var 4) (some (.cst (.int 4))) none))] [], .ret (.var 4)]
noncomputable def f_l_due : Fn := fnD 1 5 b_l_due
theorem e_l_due (a0 : T) (m : Sto) : f_l_due [a0] m = ((denSs b_l_due [some a0, none, none, none, none] m).out).drop m := fnD_eq rfl
/-! _law_changed -/
def N_l_changed : List Str := ["_law_state", "_law_words_here", "_law_some", "_law_way", "_law_at"]
noncomputable def b_l_changed : List MS := [.set 2 (.lst [.cst (.str "any"), .cst (.str "none"), .cst (.str "lease"), .cst (.str "leases"), .cst (.str "0"), .cst (.str "-0"), .cst (.str "05"), .cst (.str "-7"), .cst (.str "+7"), .cst (.str "7.0"), .cst (.str ""), .cst (.str "anna"), .cst (.str "Anna"), .cst (.str "abcdefghi"), .cst (.str "a1")]), .set 2 (.bin .Add (.var 2) (.lst [.bin .Mult (.cst (.str "1")) (.cst (.int 40)), .bin .Mult (.cst (.str "1")) (.cst (.int 41)), .bin .Add (.cst (.str "-")) (.bin .Mult (.cst (.str "1")) (.cst (.int 40))), .cst (.str "runs"), .cst (.str "-")])), .set 3 (.call NH.f_l_next_2 [.var 0, .cst (.int 5)]), .set 4 (.call NH.f_l_next_2 [.var 0, .bi .len [.var 1]]), .ite (.cmp .Eq (.var 3) (.cst (.int 0))) [.ret (.bin .Add (.slc (.var 1) none (some (.var 4))) (.slc (.var 1) (some (.bin .Add (.var 4) (.cst (.int 1)))) none))] [], .ite (.cmp .Eq (.var 3) (.cst (.int 1))) [.ret (.bin .Add (.slc (.var 1) none (some (.bin .Add (.var 4) (.cst (.int 1))))) (.slc (.var 1) (some (.var 4)) none))] [], .ret (.bin .Add (.bin .Add (.slc (.var 1) none (some (.var 4))) (.lst [.idx (.var 2) (.call NH.f_l_next_2 [.var 0, .cst (.int 20)])])) (.slc (.var 1) (some (.bin .Add (.var 4) (.bin .Mod (.var 3) (.cst (.int 2))))) none))]
noncomputable def f_l_changed : Fn := fnK 2 5 b_l_changed
theorem e_l_changed (a0 a1 : T) (m : Sto) : f_l_changed [a0, a1] m = (denSs b_l_changed [some a0, some a1, none, none, none] m).out := fnK_eq rfl
/-! _law_told -/
def N_l_told : List Str := ["_law_text", "_law_found", "_law_line", "e"]
noncomputable def b_l_told : List MS := [.set 1 (.cst .non), .set 2 (.neg (.cst (.int 1))), .try [.set 1 (.call f_read_row [.var 0])] [(0, false), (1, false), (2, false), (3, true), (4, false), (5, false), (6, false), (7, false), (8, false), (9, false), (10, false), (11, false), (12, false), (13, false), (14, false), (15, false)] (some 3) [.set 2 (.xfl 3 [3])], .ret (.tup [.var 1, .var 2])]
noncomputable def f_l_told : Fn := fnK 1 4 b_l_told
theorem e_l_told (a0 : T) (m : Sto) : f_l_told [a0] m = (denSs b_l_told [some a0, none, none, none] m).out := fnK_eq rfl
/-! _law_truths -/
def N_l_truths : List Str := ["_law_row_here", "_law_part"]
noncomputable def b_l_truths : List MS := [.ret (.cmp .NotEq (.comp (.one 1) (.seq (.var 0)) [.isi (.var 1) .bool] (.var 1)) (.lst []))]
noncomputable def f_l_truths : Fn := fnK 1 2 b_l_truths
theorem e_l_truths (a0 : T) (m : Sto) : f_l_truths [a0] m = (denSs b_l_truths [some a0, none] m).out := fnK_eq rfl
/-! law -/
def N_law : List Str := ["_law_script", "_law_cell", "_law_state", "_law_row_here", "_law_words_here", "_law_text", "_law_found", "_law_due_here", "_law_odd"]
noncomputable def b_law_1 : List MS := [.set 2 (.call NH.f_l_begin_2 [.var 1]), .set 3 (.call f_l_row [.var 2]), .set 4 (.call f_l_words [.var 3]), .set 5 (.sm .join (.cst (.str " ")) [.var 4]), .ite (.or (.cmp .NotEq (.call NH.f_show_row [.var 3]) (.var 5)) (.cmp .NotEq (.call NH.f_show_row [.var 3]) (.var 5))) [.ret (.cst (.bl false))] [], .set 6 (.call f_read_row [.var 5]), .ite (.or (.not (.isi (.var 6) .tuple)) (.or (.cmp .NotEq (.var 6) (.var 3)) (.call f_l_truths [.var 6]))) [.ret (.cst (.bl false))] [], .set 4 (.call f_l_changed [.var 2, .var 4]), .set 7 (.call f_l_due [.var 4]), .ite (.cmp .NotEq (.call f_l_told [.sm .join (.cst (.str " ")) [.var 4]]) (.tup [.var 7, .idx (.lst [.neg (.cst (.int 1)), .cst (.int 0)]) (.bi .int [.cmp .Is (.var 7) (.cst .non)])])) [.ret (.cst (.bl false))] [], .set 8 (.lst [.bin .Add (.cst (.str " ")) (.var 5), .bin .Add (.var 5) (.cst (.str " ")), .bin .Add (.var 5) (.cst (.str "\n")), .bm [.upper] (.var 5) [], .cst .non, .cst (.int 5), .lst [.var 5], .var 3, .cst (.str "")]), .ite (.cmp .NotEq (.call f_l_told [.idx (.var 8) (.call NH.f_l_next_2 [.var 2, .cst (.int 9)])]) (.tup [.cst .non, .cst (.int 0)])) [.ret (.cst (.bl false))] []]
noncomputable def b_law : List MS := [.for (.one 1) (.seq (.bin .Add (.lst [.cst (.int 0)]) (.slc (.var 0) none (some (.cst (.int 16)))))) b_law_1, .ret (.cst (.bl true))]
noncomputable def f_law : Fn := fnK 1 9 b_law
theorem e_law (a0 : T) (m : Sto) : f_law [a0] m = (denSs b_law [some a0, none, none, none, none, none, none, none, none] m).out := fnK_eq rfl
theorem sc_is_holder : scB NH.N_is_holder ["thing"] (defScope s_is_holder) = true := by decide +kernel
theorem c_is_holder : cSs (G0.mu [] 1000) 60 ⟨NH.N_is_holder, defScope s_is_holder, true, none, none⟩ (defBody s_is_holder) = some NH.b_is_holder := by kernel_rfl
noncomputable def G1 : BV.Ctx := G0.fn "is_holder" 1 NH.f_is_holder
theorem sc_text_unless_2 : scB NH.N_text_unless_2 ["good"] (defScope s_text_unless_2) = true := by decide +kernel
theorem c_text_unless_2 : cSs (G1.mu [] 1000) 60 ⟨NH.N_text_unless_2, defScope s_text_unless_2, true, none, none⟩ (defBody s_text_unless_2) = some NH.b_text_unless_2 := by kernel_rfl
noncomputable def G2 : BV.Ctx := G1.fn "text_unless" 1 NH.f_text_unless_2
theorem sc_number_of_2 : scB NH.N_number_of_2 ["word"] (defScope s_number_of_2) = true := by decide +kernel
theorem c_number_of_2 : cSs (G2.mu [] 1000) 60 ⟨NH.N_number_of_2, defScope s_number_of_2, true, none, none⟩ (defBody s_number_of_2) = some NH.b_number_of_2 := by kernel_rfl
noncomputable def G3 : BV.Ctx := G2.fn "number_of" 1 NH.f_number_of_2
theorem sc_Words_init_2 : scB NH.N_Words_init_2 ["self", "text"] (defScope s_Words_init_2) = true := by decide +kernel
theorem c_Words_init_2 : cSs (G3.mu [] 1000) 60 ⟨NH.N_Words_init_2, defScope s_Words_init_2, true, none, none⟩ (defBody s_Words_init_2) = some NH.b_Words_init_2 := by kernel_rfl
noncomputable def G4 : BV.Ctx := G3.mk' "Words" 23 false NH.f_Words_init_2
theorem sc_Words_next_word : scB NH.N_Words_next_word ["self"] (defScope s_Words_next_word) = true := by decide +kernel
theorem c_Words_next_word : cSs (G4.mu [] 1000) 60 ⟨NH.N_Words_next_word, defScope s_Words_next_word, true, none, none⟩ (defBody s_Words_next_word) = some NH.b_Words_next_word := by kernel_rfl
noncomputable def G5 : BV.Ctx := G4.mth "next_word" [(23, NH.f_Words_next_word)]
theorem sc_Words_one_of : scB NH.N_Words_one_of ["self", "words"] (defScope s_Words_one_of) = true := by decide +kernel
theorem c_Words_one_of : cSs (G5.mu [] 1000) 60 ⟨NH.N_Words_one_of, defScope s_Words_one_of, true, none, none⟩ (defBody s_Words_one_of) = some NH.b_Words_one_of := by kernel_rfl
noncomputable def G6 : BV.Ctx := G5.mth "one_of" [(23, NH.f_Words_one_of)]
theorem sc_Words_next_number : scB NH.N_Words_next_number ["self"] (defScope s_Words_next_number) = true := by decide +kernel
theorem c_Words_next_number : cSs (G6.mu [] 1000) 60 ⟨NH.N_Words_next_number, defScope s_Words_next_number, true, none, none⟩ (defBody s_Words_next_number) = some NH.b_Words_next_number := by kernel_rfl
noncomputable def G7 : BV.Ctx := G6.mth "next_number" [(23, NH.f_Words_next_number)]
theorem sc_Words_next_holder : scB NH.N_Words_next_holder ["self"] (defScope s_Words_next_holder) = true := by decide +kernel
theorem c_Words_next_holder : cSs (G7.mu [] 1000) 60 ⟨NH.N_Words_next_holder, defScope s_Words_next_holder, true, none, none⟩ (defBody s_Words_next_holder) = some NH.b_Words_next_holder := by kernel_rfl
noncomputable def G8 : BV.Ctx := G7.mth "next_holder" [(23, NH.f_Words_next_holder)]
theorem sc_Words_close_2 : scB NH.N_Words_close_2 ["self"] (defScope s_Words_close_2) = true := by decide +kernel
theorem c_Words_close_2 : cSs (G8.mu [] 1000) 60 ⟨NH.N_Words_close_2, defScope s_Words_close_2, true, none, none⟩ (defBody s_Words_close_2) = some NH.b_Words_close_2 := by kernel_rfl
noncomputable def G9 : BV.Ctx := G8.mth "close" [(23, NH.f_Words_close_2)]
theorem sc_show_part : scB NH.N_show_part ["part"] (defScope s_show_part) = true := by decide +kernel
theorem c_show_part : cSs (G9.mu [] 1000) 60 ⟨NH.N_show_part, defScope s_show_part, true, none, none⟩ (defBody s_show_part) = some NH.b_show_part := by kernel_rfl
noncomputable def G10 : BV.Ctx := G9.fn "show_part" 1 NH.f_show_part
theorem sc_show_row : scB NH.N_show_row ["row"] (defScope s_show_row) = true := by decide +kernel
theorem c_show_row : cSs (G10.mu [] 1000) 60 ⟨NH.N_show_row, defScope s_show_row, true, none, none⟩ (defBody s_show_row) = some NH.b_show_row := by kernel_rfl
noncomputable def G11 : BV.Ctx := G10.fn "show_row" 1 NH.f_show_row
theorem sc_house_in : scB NH.N_house_in ["words"] (defScope s_house_in) = true := by decide +kernel
theorem c_house_in : cSs (G11.mu [] 1000) 60 ⟨NH.N_house_in, defScope s_house_in, true, none, none⟩ (defBody s_house_in) = some NH.b_house_in := by kernel_rfl
noncomputable def G12 : BV.Ctx := G11.fn "house_in" 1 NH.f_house_in
theorem sc_read_row : scB N_read_row ["text"] (defScope s_read_row) = true := by decide +kernel
theorem c_read_row : cSs (G12.mu [] 1000) 60 ⟨N_read_row, defScope s_read_row, true, none, none⟩ (defBody s_read_row) = some b_read_row := by kernel_rfl
noncomputable def G13 : BV.Ctx := G12.fn "read_row" 1 f_read_row
theorem sc_l_begin_2 : scB NH.N_l_begin_2 ["_law_cell"] (defScope s_l_begin_2) = true := by decide +kernel
theorem c_l_begin_2 : cSs (G13.mu ["return"] 1000) 60 ⟨NH.N_l_begin_2, defScope s_l_begin_2, true, none, none⟩ (defBody s_l_begin_2) = some NH.b_l_begin_2 := by kernel_rfl
noncomputable def G14 : BV.Ctx := G13.fn "_law_begin" 1 NH.f_l_begin_2
theorem sc_l_next_2 : scB NH.N_l_next_2 ["_law_state", "_law_base"] (defScope s_l_next_2) = true := by decide +kernel
theorem c_l_next_2 : cSs (G14.mu ["_law_state"] 1000) 60 ⟨NH.N_l_next_2, defScope s_l_next_2, true, none, none⟩ (defBody s_l_next_2) = some NH.b_l_next_2 := by kernel_rfl
noncomputable def G15 : BV.Ctx := G14.fn "_law_next" 2 NH.f_l_next_2
theorem sc_l_holder : scB N_l_holder ["_law_state"] (defScope s_l_holder) = true := by decide +kernel
theorem c_l_holder : cSs (G15.mu [] 1000) 60 ⟨N_l_holder, defScope s_l_holder, true, none, none⟩ (defBody s_l_holder) = some b_l_holder := by kernel_rfl
noncomputable def G16 : BV.Ctx := G15.fn "_law_holder" 1 f_l_holder
theorem sc_l_number : scB NH.N_l_number ["_law_state"] (defScope s_l_number) = true := by decide +kernel
theorem c_l_number : cSs (G16.mu [] 1000) 60 ⟨NH.N_l_number, defScope s_l_number, true, none, none⟩ (defBody s_l_number) = some NH.b_l_number := by kernel_rfl
noncomputable def G17 : BV.Ctx := G16.fn "_law_number" 1 NH.f_l_number
theorem sc_l_row : scB N_l_row ["_law_state"] (defScope s_l_row) = true := by decide +kernel
theorem c_l_row : cSs (G17.mu [] 1000) 60 ⟨N_l_row, defScope s_l_row, true, none, none⟩ (defBody s_l_row) = some b_l_row := by kernel_rfl
noncomputable def G18 : BV.Ctx := G17.fn "_law_row" 1 f_l_row
theorem sc_l_words : scB N_l_words ["_law_row_here"] (defScope s_l_words) = true := by decide +kernel
theorem c_l_words : cSs (G18.mu [] 1000) 60 ⟨N_l_words, defScope s_l_words, true, none, none⟩ (defBody s_l_words) = some b_l_words := by kernel_rfl
noncomputable def G19 : BV.Ctx := G18.fn "_law_words" 1 f_l_words
theorem sc_l_number_of : scB N_l_number_of ["_law_word"] (defScope s_l_number_of) = true := by decide +kernel
theorem c_l_number_of : cSs (G19.mu [] 1000) 60 ⟨N_l_number_of, defScope s_l_number_of, true, none, none⟩ (defBody s_l_number_of) = some b_l_number_of := by kernel_rfl
noncomputable def G20 : BV.Ctx := G19.fn "_law_number_of" 1 f_l_number_of
theorem sc_l_is_holder : scB N_l_is_holder ["_law_word"] (defScope s_l_is_holder) = true := by decide +kernel
theorem c_l_is_holder : cSs (G20.mu [] 1000) 60 ⟨N_l_is_holder, defScope s_l_is_holder, true, none, none⟩ (defBody s_l_is_holder) = some b_l_is_holder := by kernel_rfl
noncomputable def G21 : BV.Ctx := G20.fn "_law_is_holder" 1 f_l_is_holder
theorem sc_l_due : scB N_l_due ["_law_words_here"] (defScope s_l_due) = true := by decide +kernel
theorem c_l_due : cSs (G21.mu ["_law_numbers"] 1000) 60 ⟨N_l_due, defScope s_l_due, true, none, none⟩ (defBody s_l_due) = some b_l_due := by kernel_rfl
noncomputable def G22 : BV.Ctx := G21.fn "_law_due" 1 f_l_due
theorem sc_l_changed : scB N_l_changed ["_law_state", "_law_words_here"] (defScope s_l_changed) = true := by decide +kernel
theorem c_l_changed : cSs (G22.mu [] 1000) 60 ⟨N_l_changed, defScope s_l_changed, true, none, none⟩ (defBody s_l_changed) = some b_l_changed := by kernel_rfl
noncomputable def G23 : BV.Ctx := G22.fn "_law_changed" 2 f_l_changed
theorem sc_l_told : scB N_l_told ["_law_text"] (defScope s_l_told) = true := by decide +kernel
theorem c_l_told : cSs (G23.mu [] 1000) 60 ⟨N_l_told, defScope s_l_told, true, none, none⟩ (defBody s_l_told) = some b_l_told := by kernel_rfl
noncomputable def G24 : BV.Ctx := G23.fn "_law_told" 1 f_l_told
theorem sc_l_truths : scB N_l_truths ["_law_row_here"] (defScope s_l_truths) = true := by decide +kernel
theorem c_l_truths : cSs (G24.mu [] 1000) 60 ⟨N_l_truths, defScope s_l_truths, true, none, none⟩ (defBody s_l_truths) = some b_l_truths := by kernel_rfl
noncomputable def G25 : BV.Ctx := G24.fn "_law_truths" 1 f_l_truths
theorem sc_law : scB N_law ["_law_script"] (defScope s_law) = true := by decide +kernel
theorem c_law : cSs (G25.mu [] 1000) 60 ⟨N_law, defScope s_law, true, none, none⟩ (defBody s_law) = some b_law := by kernel_rfl
theorem all {w : World} {K : PySem.W.Frag} {h : Heap} {mg : Str → Option Value} (X : K.In h) (Gn : h.Ns mainGlobals mg) (c : SaysD faL fnL K) (ex : exF K = true) :
    ∃ fd : FuncData, (∀ (s : Shared) (u : Value), BindsTo s fd ⟨[u], []⟩ [("_law_script", u)]) ∧ ∀ base : Heap, FnOk P w K mg base (L2.CX P w) 29 (ga K "law") fd ["_law_script"] (spB ⟨K, mg, tab⟩ f_law) := by
  obtain ⟨fd0, F00⟩ := c.def_ 0 rfl
  have F0 := He5.fun_of (st := s_is_holder) F00
  obtain ⟨fd1, F01⟩ := c.def_ 1 rfl
  have F1 := He5.fun_of (st := s_text_unless_2) F01
  obtain ⟨fd2, F02⟩ := c.def_ 2 rfl
  have F2 := He5.fun_of (st := s_number_of_2) F02
  obtain ⟨fd3, F03⟩ := c.def_ 3 rfl
  have F3 := He5.fun_of (st := s_Words_init_2) F03
  obtain ⟨fd4, F04⟩ := c.def_ 4 rfl
  have F4 := He5.fun_of (st := s_Words_next_word) F04
  obtain ⟨fd5, F05⟩ := c.def_ 5 rfl
  have F5 := He5.fun_of (st := s_Words_one_of) F05
  obtain ⟨fd6, F06⟩ := c.def_ 6 rfl
  have F6 := He5.fun_of (st := s_Words_next_number) F06
  obtain ⟨fd7, F07⟩ := c.def_ 7 rfl
  have F7 := He5.fun_of (st := s_Words_next_holder) F07
  obtain ⟨fd8, F08⟩ := c.def_ 8 rfl
  have F8 := He5.fun_of (st := s_Words_close_2) F08
  obtain ⟨fd9, F09⟩ := c.def_ 9 rfl
  have F9 := He5.fun_of (st := s_show_part) F09
  obtain ⟨fd10, F010⟩ := c.def_ 10 rfl
  have F10 := He5.fun_of (st := s_show_row) F010
  obtain ⟨fd11, F011⟩ := c.def_ 11 rfl
  have F11 := He5.fun_of (st := s_house_in) F011
  obtain ⟨fd12, F012⟩ := c.def_ 12 rfl
  have F12 := He5.fun_of (st := s_read_row) F012
  obtain ⟨fd13, F013⟩ := c.def_ 13 rfl
  have F13 := He5.fun_of (st := s_l_begin_2) F013
  obtain ⟨fd14, F014⟩ := c.def_ 14 rfl
  have F14 := He5.fun_of (st := s_l_next_2) F014
  obtain ⟨fd15, F015⟩ := c.def_ 15 rfl
  have F15 := He5.fun_of (st := s_l_holder) F015
  obtain ⟨fd16, F016⟩ := c.def_ 16 rfl
  have F16 := He5.fun_of (st := s_l_number) F016
  obtain ⟨fd17, F017⟩ := c.def_ 17 rfl
  have F17 := He5.fun_of (st := s_l_row) F017
  obtain ⟨fd18, F018⟩ := c.def_ 18 rfl
  have F18 := He5.fun_of (st := s_l_words) F018
  obtain ⟨fd19, F019⟩ := c.def_ 19 rfl
  have F19 := He5.fun_of (st := s_l_number_of) F019
  obtain ⟨fd20, F020⟩ := c.def_ 20 rfl
  have F20 := He5.fun_of (st := s_l_is_holder) F020
  obtain ⟨fd21, F021⟩ := c.def_ 21 rfl
  have F21 := He5.fun_of (st := s_l_due) F021
  obtain ⟨fd22, F022⟩ := c.def_ 22 rfl
  have F22 := He5.fun_of (st := s_l_changed) F022
  obtain ⟨fd23, F023⟩ := c.def_ 23 rfl
  have F23 := He5.fun_of (st := s_l_told) F023
  obtain ⟨fd24, F024⟩ := c.def_ 24 rfl
  have F24 := He5.fun_of (st := s_l_truths) F024
  obtain ⟨fd25, F025⟩ := c.def_ 25 rfl
  have F25 := He5.fun_of (st := s_law) F025
  refine ⟨fd25, fun s u => (FunD.bindsA (ps := ["_law_script"]) F025 fun _ _ _ _ _ _ us hl => match us, hl with | [_], _ => rfl) s [u] rfl, fun base => ?_⟩
  unfold exF at ex
  obtain ⟨ex, er0⟩ := He.ba ex
  obtain ⟨fe0, FE0⟩ := c.def_ 26 rfl
  have gb0 : GOk Gb0 P w K mg base tab 0 := gB_ok X Gn ex rfl rfl rfl
  have re0 : RoeB' P w K mg base tab 1 "NoText" 3 (some 0) := roe_fact (st := s_NoText_init) (d := some 0) X Gn er0 rfl (by simp) FE0 (by decide +kernel) (FE0.binds1 2 0 (List.cons_ne_nil _ _) rfl fun T kV doc pm an cdv ct us its h1 h2 => match us, its, h1, h2 with | [_, _], [_], _, _ => ⟨_, rfl, rfl⟩)
  have g0 : GOk G0 P w K mg base tab 2 := gb0.roeD re0
  have o0 : FnOk P w K mg base (L2.CX P w) 3 _ fd0 ["thing"] (spB ⟨K, mg, tab⟩ NH.f_is_holder) := def_ok (g0.mu [] 1000) F0 sc_is_holder c_is_holder rfl rfl
  have b0 : Binds K fd0 ["thing"] [] := F0.binds fun _ _ _ _ _ _ us hl => match us, hl with | [_], _ => rfl
  have g1 : GOk G1 P w K mg base tab 3 := g0.fn (fn_glo X Gn (c.fact 0 (f := .glo "is_holder") rfl) F0.kp rfl o0 b0)
  have o1 : FnOk P w K mg base (L2.CX P w) 4 _ fd1 ["good"] (spB ⟨K, mg, tab⟩ NH.f_text_unless_2) := def_ok (g1.mu [] 1000) F1 sc_text_unless_2 c_text_unless_2 rfl rfl
  have b1 : Binds K fd1 ["good"] [] := F1.binds fun _ _ _ _ _ _ us hl => match us, hl with | [_], _ => rfl
  have g2 : GOk G2 P w K mg base tab 4 := g1.fn (fn_glo X Gn (c.fact 1 (f := .glo "text_unless") rfl) F1.kp rfl o1 b1)
  have o2 : FnOk P w K mg base (L2.CX P w) 5 _ fd2 ["word"] (spB ⟨K, mg, tab⟩ NH.f_number_of_2) := def_ok (g2.mu [] 1000) F2 sc_number_of_2 c_number_of_2 rfl rfl
  have b2 : Binds K fd2 ["word"] [] := F2.binds fun _ _ _ _ _ _ us hl => match us, hl with | [_], _ => rfl
  have g3 : GOk G3 P w K mg base tab 5 := g2.fn (fn_glo X Gn (c.fact 2 (f := .glo "number_of") rfl) F2.kp rfl o2 b2)
  have o3 : FnOk P w K mg base (L2.CX P w) 6 _ fd3 ["self", "text"] (spB ⟨K, mg, tab⟩ NH.f_Words_init_2) := def_ok (g3.mu [] 1000) F3 sc_Words_init_2 c_Words_init_2 rfl rfl
  have b3 : Binds K fd3 ["self", "text"] [] := F3.binds fun _ _ _ _ _ _ us hl => match us, hl with | [_, _], _ => rfl
  have g4 : GOk G4 P w K mg base tab 7 := g3.mk' (mk_glo (ks := ["some", "at"]) X Gn rfl (c.fact 3 (f := .glo "Words") rfl) (c.fact 4 (f := .mkr "Words") rfl) o3 b3)
  have o4 : FnOk P w K mg base (L2.CX P w) 8 _ fd4 ["self"] (spB ⟨K, mg, tab⟩ NH.f_Words_next_word) := def_ok (g4.mu [] 1000) F4 sc_Words_next_word c_Words_next_word rfl rfl
  have b4 : Binds K fd4 ["self"] [] := F4.binds fun _ _ _ _ _ _ us hl => match us, hl with | [_], _ => rfl
  have m4 : MethB' P w K mg base tab 8 "next_word" _ := mth_cons (ks := ["some", "at"]) X Gn (mth_none (k := 0)) (by omega) (show tab[23]? = some (("Words" : Str), _) from rfl) (by decide +kernel) (c.fact 3 (f := .glo "Words") rfl) (c.fact 5 (f := .cls "Words") rfl) (c.fact 6 (f := .meth "Words" "next_word") rfl) o4 b4
  have g5 : GOk G5 P w K mg base tab 8 := g4.mth m4
  have o5 : FnOk P w K mg base (L2.CX P w) 9 _ fd5 ["self", "words"] (spB ⟨K, mg, tab⟩ NH.f_Words_one_of) := def_ok (g5.mu [] 1000) F5 sc_Words_one_of c_Words_one_of rfl rfl
  have b5 : Binds K fd5 ["self", "words"] [] := F5.binds fun _ _ _ _ _ _ us hl => match us, hl with | [_, _], _ => rfl
  have m5 : MethB' P w K mg base tab 9 "one_of" _ := mth_cons (ks := ["some", "at"]) X Gn (mth_none (k := 0)) (by omega) (show tab[23]? = some (("Words" : Str), _) from rfl) (by decide +kernel) (c.fact 3 (f := .glo "Words") rfl) (c.fact 5 (f := .cls "Words") rfl) (c.fact 7 (f := .meth "Words" "one_of") rfl) o5 b5
  have g6 : GOk G6 P w K mg base tab 9 := g5.mth m5
  have o6 : FnOk P w K mg base (L2.CX P w) 10 _ fd6 ["self"] (spB ⟨K, mg, tab⟩ NH.f_Words_next_number) := def_ok (g6.mu [] 1000) F6 sc_Words_next_number c_Words_next_number rfl rfl
  have b6 : Binds K fd6 ["self"] [] := F6.binds fun _ _ _ _ _ _ us hl => match us, hl with | [_], _ => rfl
  have m6 : MethB' P w K mg base tab 10 "next_number" _ := mth_cons (ks := ["some", "at"]) X Gn (mth_none (k := 0)) (by omega) (show tab[23]? = some (("Words" : Str), _) from rfl) (by decide +kernel) (c.fact 3 (f := .glo "Words") rfl) (c.fact 5 (f := .cls "Words") rfl) (c.fact 8 (f := .meth "Words" "next_number") rfl) o6 b6
  have g7 : GOk G7 P w K mg base tab 10 := g6.mth m6
  have o7 : FnOk P w K mg base (L2.CX P w) 11 _ fd7 ["self"] (spB ⟨K, mg, tab⟩ NH.f_Words_next_holder) := def_ok (g7.mu [] 1000) F7 sc_Words_next_holder c_Words_next_holder rfl rfl
  have b7 : Binds K fd7 ["self"] [] := F7.binds fun _ _ _ _ _ _ us hl => match us, hl with | [_], _ => rfl
  have m7 : MethB' P w K mg base tab 11 "next_holder" _ := mth_cons (ks := ["some", "at"]) X Gn (mth_none (k := 0)) (by omega) (show tab[23]? = some (("Words" : Str), _) from rfl) (by decide +kernel) (c.fact 3 (f := .glo "Words") rfl) (c.fact 5 (f := .cls "Words") rfl) (c.fact 9 (f := .meth "Words" "next_holder") rfl) o7 b7
  have g8 : GOk G8 P w K mg base tab 11 := g7.mth m7
  have o8 : FnOk P w K mg base (L2.CX P w) 12 _ fd8 ["self"] (spB ⟨K, mg, tab⟩ NH.f_Words_close_2) := def_ok (g8.mu [] 1000) F8 sc_Words_close_2 c_Words_close_2 rfl rfl
  have b8 : Binds K fd8 ["self"] [] := F8.binds fun _ _ _ _ _ _ us hl => match us, hl with | [_], _ => rfl
  have m8 : MethB' P w K mg base tab 12 "close" _ := mth_cons (ks := ["some", "at"]) X Gn (mth_none (k := 0)) (by omega) (show tab[23]? = some (("Words" : Str), _) from rfl) (by decide +kernel) (c.fact 3 (f := .glo "Words") rfl) (c.fact 5 (f := .cls "Words") rfl) (c.fact 10 (f := .meth "Words" "close") rfl) o8 b8
  have g9 : GOk G9 P w K mg base tab 12 := g8.mth m8
  have o9 : FnOk P w K mg base (L2.CX P w) 13 _ fd9 ["part"] (spB ⟨K, mg, tab⟩ NH.f_show_part) := def_ok (g9.mu [] 1000) F9 sc_show_part c_show_part rfl rfl
  have b9 : Binds K fd9 ["part"] [] := F9.binds fun _ _ _ _ _ _ us hl => match us, hl with | [_], _ => rfl
  have g10 : GOk G10 P w K mg base tab 13 := g9.fn (fn_glo X Gn (c.fact 11 (f := .glo "show_part") rfl) F9.kp rfl o9 b9)
  have o10 : FnOk P w K mg base (L2.CX P w) 14 _ fd10 ["row"] (spB ⟨K, mg, tab⟩ NH.f_show_row) := def_ok (g10.mu [] 1000) F10 sc_show_row c_show_row rfl rfl
  have b10 : Binds K fd10 ["row"] [] := F10.binds fun _ _ _ _ _ _ us hl => match us, hl with | [_], _ => rfl
  have g11 : GOk G11 P w K mg base tab 14 := g10.fn (fn_glo X Gn (c.fact 12 (f := .glo "show_row") rfl) F10.kp rfl o10 b10)
  have o11 : FnOk P w K mg base (L2.CX P w) 15 _ fd11 ["words"] (spB ⟨K, mg, tab⟩ NH.f_house_in) := def_ok (g11.mu [] 1000) F11 sc_house_in c_house_in rfl rfl
  have b11 : Binds K fd11 ["words"] [] := F11.binds fun _ _ _ _ _ _ us hl => match us, hl with | [_], _ => rfl
  have g12 : GOk G12 P w K mg base tab 15 := g11.fn (fn_glo X Gn (c.fact 13 (f := .glo "house_in") rfl) F11.kp rfl o11 b11)
  have o12 : FnOk P w K mg base (L2.CX P w) 16 _ fd12 ["text"] (spB ⟨K, mg, tab⟩ f_read_row) := def_ok (g12.mu [] 1000) F12 sc_read_row c_read_row rfl rfl
  have b12 : Binds K fd12 ["text"] [] := F12.binds fun _ _ _ _ _ _ us hl => match us, hl with | [_], _ => rfl
  have g13 : GOk G13 P w K mg base tab 16 := g12.fn (fn_glo X Gn (c.fact 14 (f := .glo "read_row") rfl) F12.kp rfl o12 b12)
  have o13 : FnOk P w K mg base (L2.CX P w) 17 _ fd13 ["_law_cell"] (spB ⟨K, mg, tab⟩ NH.f_l_begin_2) := def_ok (g13.mu ["return"] 1000) F13 sc_l_begin_2 c_l_begin_2 rfl rfl
  have b13 : Binds K fd13 ["_law_cell"] [] := F13.binds fun _ _ _ _ _ _ us hl => match us, hl with | [_], _ => rfl
  have g14 : GOk G14 P w K mg base tab 17 := g13.fn (fn_glo X Gn (c.fact 15 (f := .glo "_law_begin") rfl) F13.kp rfl o13 b13)
  have o14 : FnOk P w K mg base (L2.CX P w) 18 _ fd14 ["_law_state", "_law_base"] (spB ⟨K, mg, tab⟩ NH.f_l_next_2) := def_ok (g14.mu ["_law_state"] 1000) F14 sc_l_next_2 c_l_next_2 rfl rfl
  have b14 : Binds K fd14 ["_law_state", "_law_base"] [] := F14.binds fun _ _ _ _ _ _ us hl => match us, hl with | [_, _], _ => rfl
  have g15 : GOk G15 P w K mg base tab 18 := g14.fn (fn_glo X Gn (c.fact 16 (f := .glo "_law_next") rfl) F14.kp rfl o14 b14)
  have o15 : FnOk P w K mg base (L2.CX P w) 19 _ fd15 ["_law_state"] (spB ⟨K, mg, tab⟩ f_l_holder) := def_ok (g15.mu [] 1000) F15 sc_l_holder c_l_holder rfl rfl
  have b15 : Binds K fd15 ["_law_state"] [] := F15.binds fun _ _ _ _ _ _ us hl => match us, hl with | [_], _ => rfl
  have g16 : GOk G16 P w K mg base tab 19 := g15.fn (fn_glo X Gn (c.fact 17 (f := .glo "_law_holder") rfl) F15.kp rfl o15 b15)
  have o16 : FnOk P w K mg base (L2.CX P w) 20 _ fd16 ["_law_state"] (spB ⟨K, mg, tab⟩ NH.f_l_number) := def_ok (g16.mu [] 1000) F16 sc_l_number c_l_number rfl rfl
  have b16 : Binds K fd16 ["_law_state"] [] := F16.binds fun _ _ _ _ _ _ us hl => match us, hl with | [_], _ => rfl
  have g17 : GOk G17 P w K mg base tab 20 := g16.fn (fn_glo X Gn (c.fact 18 (f := .glo "_law_number") rfl) F16.kp rfl o16 b16)
  have o17 : FnOk P w K mg base (L2.CX P w) 21 _ fd17 ["_law_state"] (spB ⟨K, mg, tab⟩ f_l_row) := def_ok (g17.mu [] 1000) F17 sc_l_row c_l_row rfl rfl
  have b17 : Binds K fd17 ["_law_state"] [] := F17.binds fun _ _ _ _ _ _ us hl => match us, hl with | [_], _ => rfl
  have g18 : GOk G18 P w K mg base tab 21 := g17.fn (fn_glo X Gn (c.fact 19 (f := .glo "_law_row") rfl) F17.kp rfl o17 b17)
  have o18 : FnOk P w K mg base (L2.CX P w) 22 _ fd18 ["_law_row_here"] (spB ⟨K, mg, tab⟩ f_l_words) := def_ok (g18.mu [] 1000) F18 sc_l_words c_l_words rfl rfl
  have b18 : Binds K fd18 ["_law_row_here"] [] := F18.binds fun _ _ _ _ _ _ us hl => match us, hl with | [_], _ => rfl
  have g19 : GOk G19 P w K mg base tab 22 := g18.fn (fn_glo X Gn (c.fact 20 (f := .glo "_law_words") rfl) F18.kp rfl o18 b18)
  have o19 : FnOk P w K mg base (L2.CX P w) 23 _ fd19 ["_law_word"] (spB ⟨K, mg, tab⟩ f_l_number_of) := def_ok (g19.mu [] 1000) F19 sc_l_number_of c_l_number_of rfl rfl
  have b19 : Binds K fd19 ["_law_word"] [] := F19.binds fun _ _ _ _ _ _ us hl => match us, hl with | [_], _ => rfl
  have g20 : GOk G20 P w K mg base tab 23 := g19.fn (fn_glo X Gn (c.fact 21 (f := .glo "_law_number_of") rfl) F19.kp rfl o19 b19)
  have o20 : FnOk P w K mg base (L2.CX P w) 24 _ fd20 ["_law_word"] (spB ⟨K, mg, tab⟩ f_l_is_holder) := def_ok (g20.mu [] 1000) F20 sc_l_is_holder c_l_is_holder rfl rfl
  have b20 : Binds K fd20 ["_law_word"] [] := F20.binds fun _ _ _ _ _ _ us hl => match us, hl with | [_], _ => rfl
  have g21 : GOk G21 P w K mg base tab 24 := g20.fn (fn_glo X Gn (c.fact 22 (f := .glo "_law_is_holder") rfl) F20.kp rfl o20 b20)
  have o21 : FnOk P w K mg base (L2.CX P w) 25 _ fd21 ["_law_words_here"] (spB ⟨K, mg, tab⟩ f_l_due) := def_okD (g21.mu ["_law_numbers"] 1000) F21 sc_l_due c_l_due rfl rfl
  have b21 : Binds K fd21 ["_law_words_here"] [] := F21.binds fun _ _ _ _ _ _ us hl => match us, hl with | [_], _ => rfl
  have g22 : GOk G22 P w K mg base tab 25 := g21.fn (fn_glo X Gn (c.fact 23 (f := .glo "_law_due") rfl) F21.kp rfl o21 b21)
  have o22 : FnOk P w K mg base (L2.CX P w) 26 _ fd22 ["_law_state", "_law_words_here"] (spB ⟨K, mg, tab⟩ f_l_changed) := def_ok (g22.mu [] 1000) F22 sc_l_changed c_l_changed rfl rfl
  have b22 : Binds K fd22 ["_law_state", "_law_words_here"] [] := F22.binds fun _ _ _ _ _ _ us hl => match us, hl with | [_, _], _ => rfl
  have g23 : GOk G23 P w K mg base tab 26 := g22.fn (fn_glo X Gn (c.fact 24 (f := .glo "_law_changed") rfl) F22.kp rfl o22 b22)
  have o23 : FnOk P w K mg base (L2.CX P w) 27 _ fd23 ["_law_text"] (spB ⟨K, mg, tab⟩ f_l_told) := def_ok (g23.mu [] 1000) F23 sc_l_told c_l_told rfl rfl
  have b23 : Binds K fd23 ["_law_text"] [] := F23.binds fun _ _ _ _ _ _ us hl => match us, hl with | [_], _ => rfl
  have g24 : GOk G24 P w K mg base tab 27 := g23.fn (fn_glo X Gn (c.fact 25 (f := .glo "_law_told") rfl) F23.kp rfl o23 b23)
  have o24 : FnOk P w K mg base (L2.CX P w) 28 _ fd24 ["_law_row_here"] (spB ⟨K, mg, tab⟩ f_l_truths) := def_ok (g24.mu [] 1000) F24 sc_l_truths c_l_truths rfl rfl
  have b24 : Binds K fd24 ["_law_row_here"] [] := F24.binds fun _ _ _ _ _ _ us hl => match us, hl with | [_], _ => rfl
  have g25 : GOk G25 P w K mg base tab 28 := g24.fn (fn_glo X Gn (c.fact 26 (f := .glo "_law_truths") rfl) F24.kp rfl o24 b24)
  have o25 : FnOk P w K mg base (L2.CX P w) 29 _ fd25 ["_law_script"] (spB ⟨K, mg, tab⟩ f_law) := def_ok (g25.mu [] 1000) F25 sc_law c_law rfl rfl
  exact o25
end K81
namespace NH
open PySem PySem.Spec BV
/-! draws -/
def cell (ns : List Int) (k : Nat) : Int := ns[k]?.getD 0
theorem cell_ok (ns : List Int) (k : Nat) (m : Sto) : f_l_cell_at [.scr ns, .int k] m = .ok (.int (cell ns k)) m := by
  rw [e_l_cell_at, b_l_cell_at]
  by_cases h : k < ns.length
  · have e : L2.atI ns (k : Int) = some ns[k] := L2.atI_nat (by simp [h])
    simp (disch := first | assumption | rfl | exact mulOk_r (by omega) (by omega) | exact mulOk_l (by omega) (by omega) | exact divOk_s (by omega) (by omega) | omega | (simp only [List.length_cons, List.length_nil]; omega) | simp only [datT_tup, datT_lst, datT_int, datT_bl, datT_non, List.all_cons, List.all_nil, Bool.and_self, Bool.and_true]) [cmp_eqTup, cmp_neTup, cmp_eqLst, cmp_neLst, mod_int, mul_int, div_int, shr_int, cmp_is, cmp_isnot, xisAny, List.lookup, idx_scr, h, e, cell]
  · have e : ns[k]? = none := List.getElem?_eq_none (by omega)
    simp (disch := first | assumption | rfl | exact mulOk_r (by omega) (by omega) | exact mulOk_l (by omega) (by omega) | exact divOk_s (by omega) (by omega) | omega | (simp only [List.length_cons, List.length_nil]; omega) | simp only [datT_tup, datT_lst, datT_int, datT_bl, datT_non, List.all_cons, List.all_nil, Bool.and_self, Bool.and_true]) [cmp_eqTup, cmp_neTup, cmp_eqLst, cmp_neLst, mod_int, mul_int, div_int, shr_int, cmp_is, cmp_isnot, xisAny, List.lookup, cell, h, e]
/-! whole numbers -/
def knd : T → Bool
  | .non => true | .bl _ => true | .int _ => true | .str _ => true | .lst _ => true | .tup _ => true
  | _ => false
def isI : T → Bool
  | .int _ => true
  | _ => false
def belT (t : T) (n : Int) : Bool := match t with
  | .int i => decide (0 ≤ i ∧ i < n)
  | _ => false
@[simp] theorem isI_int (i : Int) : isI (.int i) = true := rfl
@[simp] theorem knd_int (i : Int) : knd (.int i) = true := rfl
@[simp] theorem belT_int (i n : Int) : belT (.int i) n = decide (0 ≤ i ∧ i < n) := rfl
theorem whole_ok (t : T) (m : Sto) (h : knd t = true) : f_is_whole [t] m = .ok (.bl (isI t)) m := by
  rw [e_is_whole, b_is_whole]
  cases t <;> first | cases h | skip
  all_goals simp [isI]
@[simp] theorem whole_int (i : Int) (m : Sto) : f_is_whole [.int i] m = .ok (.bl true) m := whole_ok _ m rfl
theorem below_ok (t : T) (n : Int) (m : Sto) (h : knd t = true) : f_is_below [t, .int n] m = .ok (.bl (belT t n)) m := by
  rw [e_is_below, b_is_below]
  simp (disch := first | assumption | rfl | exact mulOk_r (by omega) (by omega) | exact mulOk_l (by omega) (by omega) | exact divOk_s (by omega) (by omega) | omega | (simp only [List.length_cons, List.length_nil]; omega) | simp only [datT_tup, datT_lst, datT_int, datT_bl, datT_non, List.all_cons, List.all_nil, Bool.and_self, Bool.and_true]) [cmp_eqTup, cmp_neTup, cmp_eqLst, cmp_neLst, mod_int, mul_int, div_int, shr_int, cmp_is, cmp_isnot, xisAny, List.lookup, whole_ok, h]
  cases t <;> first | cases h | skip
  all_goals simp [isI, belT]
@[simp] theorem whole_non (m : Sto) : f_is_whole [.non] m = .ok (.bl false) m := whole_ok _ m rfl
@[simp] theorem whole_bl (b : Bool) (m : Sto) : f_is_whole [.bl b] m = .ok (.bl false) m := whole_ok _ m rfl
@[simp] theorem whole_str (b : Str) (m : Sto) : f_is_whole [.str b] m = .ok (.bl false) m := whole_ok _ m rfl
@[simp] theorem whole_lst (b : List T) (m : Sto) : f_is_whole [.lst b] m = .ok (.bl false) m := whole_ok _ m rfl
@[simp] theorem whole_tup (b : List T) (m : Sto) : f_is_whole [.tup b] m = .ok (.bl false) m := whole_ok _ m rfl
@[simp] theorem below_int (i n : Int) (m : Sto) : f_is_below [.int i, .int n] m = .ok (.bl (decide (0 ≤ i ∧ i < n))) m := below_ok _ n m rfl
@[simp] theorem below_non (n : Int) (m : Sto) : f_is_below [.non, .int n] m = .ok (.bl false) m := below_ok _ n m rfl
@[simp] theorem below_bl (b : Bool) (n : Int) (m : Sto) : f_is_below [.bl b, .int n] m = .ok (.bl false) m := below_ok _ n m rfl
@[simp] theorem below_str (b : Str) (n : Int) (m : Sto) : f_is_below [.str b, .int n] m = .ok (.bl false) m := below_ok _ n m rfl
@[simp] theorem below_lst (b : List T) (n : Int) (m : Sto) : f_is_below [.lst b, .int n] m = .ok (.bl false) m := below_ok _ n m rfl
@[simp] theorem below_tup (b : List T) (n : Int) (m : Sto) : f_is_below [.tup b, .int n] m = .ok (.bl false) m := below_ok _ n m rfl
/-! shapes -/
abbrev shp (a b c : Int) : T := .obj 16 [.int a, .int b, .int c]
/-- a shape whose sizes are small enough for the machine's products -/
structure Sh (M H C : Int) : Prop where
  m : 1 ≤ M
  h : 1 ≤ H
  c : 1 ≤ C
  big : M * H * C < 2 ^ 900
end NH
namespace NH
open PySem PySem.Spec BV
/-! names and their parts -/
theorem Sh.pos {M H C : Int} (s : Sh M H C) : 0 < M ∧ 0 < H ∧ 0 < C := ⟨by have := s.m; omega, by have := s.h; omega, by have := s.c; omega⟩
theorem mul_lt3 {x y a b : Int} (hx : 0 ≤ x) (hy : 0 < y) (h : x < a) : x * y + y ≤ a * y := by
  have : (x + 1) * y ≤ a * y := Int.mul_le_mul_of_nonneg_right (by omega) (by omega)
  have e : (x + 1) * y = x * y + y := by rw [Int.add_mul, Int.one_mul]
  omega
theorem Sh.in1 {M H C x y : Int} (s : Sh M H C) (hx : 0 ≤ x) (hx2 : x < M) (hy : 0 ≤ y) (hy2 : y < H) : 0 ≤ x * H + y ∧ x * H + y < M * H := by
  have p := s.pos
  have := mul_lt3 (a := M) (b := 0) hx p.2.1 hx2
  have h0 : 0 ≤ x * H := Int.mul_nonneg hx (by omega)
  omega
end NH
namespace NH
open PySem PySem.Spec BV
/-! the shapes and parts of k02 to k05 -/
end NH
namespace NH
open PySem PySem.Spec BV
/-! drawn by a state: the laws from k11 on -/
abbrev St3 := Int × Int × Int
def cel (s : St3) : Cell := .lst [.int s.1, .int s.2.1, .int s.2.2]
def mix1 (n : Int) : Int := n * (n / 1009 + 69621) % 2147483647
def mix2 (n : Int) : Int := n * (n / 2003 + 40692) % 2147483399
def nextV (s : St3) (b : Int) : Int × St3 :=
  if 0 < s.1 then (s.1 % b, (s.1 / b, s.2.1, s.2.2)) else
    (mix2 (mix1 ((s.2.1 + 7919 * (s.2.2 + 1) + 1) * 48271 % 2147483647)) / 7 % b, (s.1, s.2.1, s.2.2 + 1))
theorem next_nn (s : St3) {b : Int} (h : 0 < b) : 0 ≤ (nextV s b).1 := by
  unfold nextV
  split <;> exact Int.emod_nonneg _ (by omega)
theorem next_lt (s : St3) {b : Int} (h : 0 < b) : (nextV s b).1 < b := by
  unfold nextV
  split <;> exact Int.emod_lt_of_pos _ h
theorem p10 (j : Nat) (m : Sto) (h : j ≤ 1000000) : binT .Pow (.int 10) (.int j) m = .ok (.int (10 ^ j)) m := pow_int m ⟨by omega, by omega, by decide⟩
end NH
namespace NH
open PySem PySem.Spec BV
/-! names as texts: plain -/
/-- how many signs a number has by the base 32 -/
def wdF : Nat → Nat → Nat
  | 0, _ => 1
  | f + 1, k => if k < 32 then 1 else wdF f (k / 32) + 1
def wd (k : Nat) : Nat := wdF 200 k
/-! width, _law_width -/
end NH
namespace NH
open PySem PySem.Spec BV
/-! names as texts -/
/-! _law_text -/
end NH
namespace NH
open PySem PySem.Spec BV
/-! names read from texts -/
def vl : List Int → Int → Int
  | [], a => a
  | d :: ds, a => vl ds (a * 32 + d)
end NH
namespace NH
open PySem PySem.Spec BV
/-! texts are ordered as names are -/
end NH
namespace NH
open PySem PySem.Spec BV
@[simp] theorem cell_lit (ns : List Int) (k : Nat) (m : Sto) : f_l_cell_at [.scr ns, .int (no_index (OfNat.ofNat k))] m = .ok (.int (cell ns k)) m := cell_ok ns k m
theorem begin_w {c : Int} {m : Sto} {K : PR T} (k : ∀ s, K.ok (.hd m.length) (m ++ [cel s])) : W (f_l_begin_2 [.int c] m) K := by
  rw [e_l_begin_2, b_l_begin_2]
  simp (disch := first | assumption | rfl | exact mulOk_r (by omega) (by omega) | exact mulOk_l (by omega) (by omega) | exact divOk_s (by omega) (by omega) | omega | (simp only [List.length_cons, List.length_nil]; omega) | simp only [datT_tup, datT_lst, datT_int, datT_bl, datT_non, List.all_cons, List.all_nil, Bool.and_self, Bool.and_true]) [-bind_ite, -st_ite, -seq_ite, -out_ite, -lp_ite, -tryS_ite, -unb_ite, -toM_ite, -nox_ite, -drop_ite, cmp_eqTup, cmp_neTup, cmp_eqLst, cmp_neLst, mod_int, mul_int, div_int, shr_int, cmp_is, cmp_isnot, xisAny, List.lookup]
  exact k (c / 2 * (1 - c % 2), c % 2147483647, 0)
end NH
namespace NH
open PySem PySem.Spec BV
end NH
namespace NH
open PySem PySem.Spec BV
theorem strOk_of {x : Str} (h : ∀ c ∈ x.cps.toList, c < 1114112) (n : Nat) : datT n (.str x) = true := by
  rw [datT_str]
  show x.cps.all (· < 0x110000) = true
  rw [← Array.all_toList]
  exact List.all_eq_true.mpr fun c hc => decide_eq_true (h c hc)
end NH
namespace NH
open PySem PySem.Spec BV
/-! holders -/
def memS (c : Nat) (b : Str) : Bool := decide (c ∈ b.cps.toList)
def AZ : Str := "abcdefghijklmnopqrstuvwxyz"
def letB (c : Nat) : Bool := memS c AZ
def holdB (x : Str) : Bool := decide (1 ≤ x.length) && (decide (x.length ≤ 8) && x.cps.toList.all letB)
theorem in_az (c : Nat) (m : Sto) : cmpT .In (.str ⟨#[c]⟩) (.str "abcdefghijklmnopqrstuvwxyz") m = .ok (.bl (letB c)) m := rfl
theorem all_az (x : Str) (s1 : Option T) (m : Sto) : compL (turnC (.one 1) [] (.cmp .In (.var 1) (.cst (.str "abcdefghijklmnopqrstuvwxyz"))) [some (.str x), s1] ⟨x.cps.toList.map fun c => T.str ⟨#[c]⟩, none⟩) (x.cps.toList.map fun c => T.str ⟨#[c]⟩) [] m = .ok (.lst ((x.cps.toList.map letB).map .bl)) m := by
  refine Eq.trans (compL_st (n := none) trivial (fun t => match t with | .str s => .bl (letB (s.cps.toList.headD 0)) | _ => .non) ?_) ?_
  · intro t ht
    obtain ⟨c, hc, rfl⟩ := List.mem_map.mp ht
    simp (disch := first | assumption | rfl | exact mulOk_r (by omega) (by omega) | exact mulOk_l (by omega) (by omega) | exact divOk_s (by omega) (by omega) | omega | (simp only [List.length_cons, List.length_nil]; omega) | simp only [datT_tup, datT_lst, datT_int, datT_bl, datT_non, List.all_cons, List.all_nil, Bool.and_self, Bool.and_true]) [cmp_eqTup, cmp_neTup, cmp_eqLst, cmp_neLst, mod_int, mul_int, div_int, shr_int, cmp_is, cmp_isnot, xisAny, List.lookup, in_az]
  · congr 2
    rw [List.map_map, List.map_map]
    rfl
theorem holder_str (x : Str) (m : Sto) : f_is_holder [.str x] m = .ok (.bl (holdB x)) m := by
  have cm := all_az x
  have ez : (((x.cps.toList.map letB).map T.bl)) = (x.cps.toList.map letB).map T.bl := rfl
  have ba : bls ((x.cps.toList.map letB).map T.bl) = some (x.cps.toList.map letB) := bls_map _
  have hb : holdB x = (decide (1 ≤ x.length) && (decide (x.length ≤ 8) && (x.cps.toList.map letB).all id)) := by
    unfold holdB
    rw [List.all_map]
    rfl
  rw [hb]
  generalize hs : (x.cps.toList.map fun c => T.str ⟨#[c]⟩) = sg at cm
  have wk : ∀ m, walkT (.str x) m = some ⟨sg, none⟩ := fun m => by rw [walkT_str, hs]
  generalize (x.cps.toList.map letB) = bs at *
  generalize bs.map T.bl = L at *
  rw [e_is_holder, b_is_holder]
  by_cases h1 : (x.length : Int) < 1
  · have a1 : ¬ 1 ≤ x.length := by omega
    simp (disch := first | assumption | rfl | exact mulOk_r (by omega) (by omega) | exact mulOk_l (by omega) (by omega) | exact divOk_s (by omega) (by omega) | omega | (simp only [List.length_cons, List.length_nil]; omega) | simp only [datT_tup, datT_lst, datT_int, datT_bl, datT_non, List.all_cons, List.all_nil, Bool.and_self, Bool.and_true]) [cmp_eqTup, cmp_neTup, cmp_eqLst, cmp_neLst, mod_int, mul_int, div_int, shr_int, cmp_is, cmp_isnot, xisAny, List.lookup, h1, a1]
  · by_cases h2 : 8 < (x.length : Int)
    · have a1 : ¬ x.length ≤ 8 := by omega
      simp (disch := first | assumption | rfl | exact mulOk_r (by omega) (by omega) | exact mulOk_l (by omega) (by omega) | exact divOk_s (by omega) (by omega) | omega | (simp only [List.length_cons, List.length_nil]; omega) | simp only [datT_tup, datT_lst, datT_int, datT_bl, datT_non, List.all_cons, List.all_nil, Bool.and_self, Bool.and_true]) [cmp_eqTup, cmp_neTup, cmp_eqLst, cmp_neLst, mod_int, mul_int, div_int, shr_int, cmp_is, cmp_isnot, xisAny, List.lookup, h1, h2, a1]
    · have a1 : 1 ≤ x.length := by omega
      have a2 : x.length ≤ 8 := by omega
      simp (disch := first | assumption | rfl | exact mulOk_r (by omega) (by omega) | exact mulOk_l (by omega) (by omega) | exact divOk_s (by omega) (by omega) | omega | (simp only [List.length_cons, List.length_nil]; omega) | simp only [datT_tup, datT_lst, datT_int, datT_bl, datT_non, List.all_cons, List.all_nil, Bool.and_self, Bool.and_true]) [cmp_eqTup, cmp_neTup, cmp_eqLst, cmp_neLst, mod_int, mul_int, div_int, shr_int, cmp_is, cmp_isnot, xisAny, List.lookup, -walkT_str, wk, h1, h2, cm, ba, a1, a2]
theorem holder_no {t : T} {m : Sto} (h : tyIs t m .str = some false) : f_is_holder [t] m = .ok (.bl false) m := by
  rw [e_is_holder, b_is_holder]
  simp (disch := first | assumption | rfl | exact mulOk_r (by omega) (by omega) | exact mulOk_l (by omega) (by omega) | exact divOk_s (by omega) (by omega) | omega | (simp only [List.length_cons, List.length_nil]; omega) | simp only [datT_tup, datT_lst, datT_int, datT_bl, datT_non, List.all_cons, List.all_nil, Bool.and_self, Bool.and_true]) [cmp_eqTup, cmp_neTup, cmp_eqLst, cmp_neLst, mod_int, mul_int, div_int, shr_int, cmp_is, cmp_isnot, xisAny, List.lookup, h]
@[simp] theorem holder_int (i : Int) (m : Sto) : f_is_holder [.int i] m = .ok (.bl false) m := holder_no rfl
@[simp] theorem holder_bl (i : Bool) (m : Sto) : f_is_holder [.bl i] m = .ok (.bl false) m := holder_no rfl
@[simp] theorem holder_non (m : Sto) : f_is_holder [.non] m = .ok (.bl false) m := holder_no rfl
@[simp] theorem holder_lst (xs : List T) (m : Sto) : f_is_holder [.lst xs] m = .ok (.bl false) m := holder_no rfl
@[simp] theorem holder_tup (xs : List T) (m : Sto) : f_is_holder [.tup xs] m = .ok (.bl false) m := holder_no rfl
/-! texts of which the length alone is wanted -/
theorem idxS_w {s : Str} {i : Int} {m : Sto} {K : PR T} (h0 : 0 ≤ i) (h1 : i < s.length) (k : ∀ c, c ∈ s.cps.toList → K.ok (.str ⟨#[c]⟩) m) : W (idxT (.str s) (.int i) m) K := by
  have h1' : i < s.cps.toList.length := by
    have : s.cps.toList.length = s.length := rfl
    omega
  obtain ⟨t, h2, h3, _⟩ := atI_some (xs := s.cps.toList) h0 h1'
  exact W_eq (idx_str m h2) (k t h3)
end NH
namespace NH
open PySem PySem.Spec BV
/-! leaving a def that changed what stood there -/
/-! clocks -/
abbrev Tn := Int × Int × Bool
end NH
namespace NH
open PySem PySem.Spec BV
/-! numbers drawn: the clocks' laws -/
theorem next2_h (s : St3) (b : Int) {m : Sto} {h : Nat} (g : m[h]? = some (cel s)) (hb : 0 < b) (h2 : b < 2 ^ 200) : f_l_next_2 [.hd h, .int b] m = .ok (.int (nextV s b).1) (m.set h (cel (nextV s b).2)) := by
  obtain ⟨x, y, z⟩ := s
  have n1 : 0 ≤ (y + 7919 * (z + 1) + 1) * 48271 % 2147483647 := Int.emod_nonneg _ (by omega)
  have n2 : (y + 7919 * (z + 1) + 1) * 48271 % 2147483647 < 2147483647 := Int.emod_lt_of_pos _ (by omega)
  have n3 : 0 ≤ mix1 ((y + 7919 * (z + 1) + 1) * 48271 % 2147483647) := Int.emod_nonneg _ (by omega)
  have n4 : mix1 ((y + 7919 * (z + 1) + 1) * 48271 % 2147483647) < 2147483647 := Int.emod_lt_of_pos _ (by omega)
  have dv : divOk b := divOk_s hb h2
  unfold cel at g
  dsimp only at g
  have l1 := lstOf_hd g
  have l2 : ∀ xs, lstOf (m.set h (.lst xs)) (.hd h) = some xs := fun xs => lstOf_hd (gs_same g)
  have s1 := fun i x e h0 h1 => sub_hd (i := i) (x := x) (e := e) g h0 h1
  have s2 := fun xs i x e h0 h1 => sub_hd (xs := xs) (i := i) (x := x) (e := e) (gs_same (c := .lst xs) g) h0 h1
  rw [e_l_next_2, b_l_next_2]
  unfold cel nextV
  dsimp only
  by_cases c : 0 < x
  · simp (disch := first | assumption | rfl | exact mulOk_r (by omega) (by omega) | exact mulOk_l (by omega) (by omega) | exact divOk_s (by omega) (by omega) | omega | (simp only [List.length_cons, List.length_nil]; omega) | simp only [datT_tup, datT_lst, datT_int, datT_bl, datT_non, List.all_cons, List.all_nil, Bool.and_self, Bool.and_true]) [cmp_eqTup, cmp_neTup, cmp_eqLst, cmp_neLst, mod_int, mul_int, div_int, shr_int, cmp_is, cmp_isnot, xisAny, List.lookup, c, l1, l2, s1, s2, atI_lit]
  · simp (disch := first | assumption | rfl | exact mulOk_r (by omega) (by omega) | exact mulOk_l (by omega) (by omega) | exact divOk_s (by omega) (by omega) | omega | (simp only [List.length_cons, List.length_nil]; omega) | simp only [datT_tup, datT_lst, datT_int, datT_bl, datT_non, List.all_cons, List.all_nil, Bool.and_self, Bool.and_true]) [cmp_eqTup, cmp_neTup, cmp_eqLst, cmp_neLst, mod_int, mul_int, div_int, shr_int, cmp_is, cmp_isnot, xisAny, List.lookup, c, l1, l2, s1, s2, atI_lit, mix1, mix2]
theorem next2_w {s : St3} {b : Int} {m : Sto} {h : Nat} {K : PR T} (g : m[h]? = some (cel s)) (hb : 0 < b) (h2 : b ≤ 2 ^ 190) (k : ∀ v s', 0 ≤ v → v < b → K.ok (.int v) (m.set h (cel s'))) : W (f_l_next_2 [.hd h, .int b] m) K :=
  W_eq (next2_h s b g hb (Int.lt_of_le_of_lt h2 (by decide))) (k _ _ (next_nn s hb) (next_lt s hb))
theorem sgn_mul (a v : Int) (h0 : 0 ≤ a) (h1 : a < 1000000000000) (v0 : 0 ≤ v) (v1 : v < 2) : -1000000000000 < a * (1 - 2 * v) ∧ a * (1 - 2 * v) < 1000000000000 := by
  have : v = 0 ∨ v = 1 := by omega
  rcases this with rfl | rfl <;> omega
theorem number_w {s : St3} {m : Sto} {h : Nat} {K : PR T} (g : m[h]? = some (cel s)) (k : ∀ v s', -1000000000000 < v → v < 1000000000000 → K.ok (.int v) (m.set h (cel s'))) : W (f_l_number [.hd h] m) K := by
  have e0 : ∀ m, binT .Pow (.int 10) (.int 6) m = .ok (.int 1000000) m := fun m => p10 6 m (by omega)
  rw [e_l_number, b_l_number]
  (repeat' (first | (simp (disch := first | assumption | rfl | exact mulOk_r (by omega) (by omega) | exact mulOk_l (by omega) (by omega) | exact divOk_s (by omega) (by omega) | omega | (simp only [List.length_cons, List.length_nil]; omega) | simp only [datT_tup, datT_lst, datT_int, datT_bl, datT_non, List.all_cons, List.all_nil, Bool.and_self, Bool.and_true]) [-bind_ite, -st_ite, -seq_ite, -out_ite, -lp_ite, -tryS_ite, -unb_ite, -toM_ite, -nox_ite, -drop_ite, cmp_eqTup, cmp_neTup, cmp_eqLst, cmp_neLst, mod_int, mul_int, div_int, shr_int, cmp_is, cmp_isnot, xisAny, List.lookup, e0, g, gs_same]) | (with_reducible refine next2_w g (by omega) (by omega) ?_; intros) | (with_reducible refine next2_w (gs_same g) (by omega) (by omega) ?_; intros) | (with_reducible refine W_ite (fun _ => ?_) (fun _ => ?_) <;> first | (exfalso; omega) | skip) | (with_reducible refine WS_ite (fun _ => ?_) (fun _ => ?_) <;> first | (exfalso; omega) | skip)))
  · exact k _ _ (by omega) (by omega)
  · rename_i v1 _ _ _ _ _ _ _ _ a _ a0 a1 b _ b0 b1 c _ c0 c1
    have := sgn_mul (a * 1000000 + b) c (by omega) (by omega) c0 c1
    exact k _ _ this.1 this.2
end NH
namespace NH
open PySem PySem.Spec BV
/-! pairs in order -/
/-! the least free begin -/
end NH
namespace NH
open PySem PySem.Spec BV
/-! the common book -/
structure LV where
  who : Str
  hs : Int
  fs : Int
  un : Int
  en : Int
  ct : Bool
def letC (v : LV) : Cell := .ins 18 [.str v.who, .tup [.int v.hs, .int v.fs, .int v.un], .int v.en, .bl v.ct]
structure CB (m : Sto) (h l : Nat) (ns : List Nat) (M H C : Int) (vs : List LV) : Prop where
  c : m[h]? = some (.ins 19 [shp M H C, .hd l])
  l : m[l]? = some (.lst (ns.map .hd))
  v : ns.map (fun n => m[n]?) = vs.map (fun v => some (letC v))
  nd : ns.Nodup
theorem CB.len {m : Sto} {h l : Nat} {ns : List Nat} {M H C : Int} {vs : List LV} (b : CB m h l ns M H C vs) : ns.length = vs.length := by
  have := congrArg List.length b.v
  simpa using this
end NH
namespace NH
open PySem PySem.Spec BV
/-! words that are numbers -/
def DG : Str := "0123456789"
theorem dg_mem (c : Nat) : memS c DG = true ↔ 48 ≤ c ∧ c ≤ 57 := by
  have e : DG.cps.toList = [48, 49, 50, 51, 52, 53, 54, 55, 56, 57] := by decide +kernel
  unfold memS
  rw [e]
  simp
  omega
theorem in_dg (c : Nat) (m : Sto) : cmpT .In (.str ⟨#[c]⟩) (.str "0123456789") m = .ok (.bl (memS c DG)) m := rfl
theorem notin_dg (c : Nat) (m : Sto) : cmpT .NotIn (.str ⟨#[c]⟩) (.str "0123456789") m = .ok (.bl (!memS c DG)) m := rfl
/-- the figures of a word -/
def figS (w : Str) : Str := if Txt.startswith w "-" then ⟨w.cps.toList.tail.toArray⟩ else w
def figB (w : Str) : Bool := decide (1 ≤ (figS w).length) && (decide ((figS w).length ≤ 40) && (figS w).cps.toList.all fun c => memS c DG)
def numB (w : Str) : Bool := figB w && (decide ((⟨#[(figS w).cps.toList.headD 0]⟩ : Str) ≠ "0") || decide (w = "0"))
noncomputable def numV (w : Str) : Int := (PySem.intText? w).getD 0
theorem unless_t (m : Sto) : f_text_unless_2 [.bl true] m = .ok .non m := by
  rw [e_text_unless_2, b_text_unless_2]
  simp (disch := first | assumption | rfl | exact mulOk_r (by omega) (by omega) | exact mulOk_l (by omega) (by omega) | exact divOk_s (by omega) (by omega) | omega | (simp only [List.length_cons, List.length_nil]; omega) | simp only [datT_tup, datT_lst, datT_int, datT_bl, datT_non, List.all_cons, List.all_nil, Bool.and_self, Bool.and_true]) [cmp_eqTup, cmp_neTup, cmp_eqLst, cmp_neLst, mod_int, mul_int, div_int, shr_int, cmp_is, cmp_isnot, xisAny, List.lookup]
theorem unless_f (m : Sto) : f_text_unless_2 [.bl false] m = .exc 3 [.int 0] m := by
  rw [e_text_unless_2, b_text_unless_2]
  simp (disch := first | assumption | rfl | exact mulOk_r (by omega) (by omega) | exact mulOk_l (by omega) (by omega) | exact divOk_s (by omega) (by omega) | omega | (simp only [List.length_cons, List.length_nil]; omega) | simp only [datT_tup, datT_lst, datT_int, datT_bl, datT_non, List.all_cons, List.all_nil, Bool.and_self, Bool.and_true]) [cmp_eqTup, cmp_neTup, cmp_eqLst, cmp_neLst, mod_int, mul_int, div_int, shr_int, cmp_is, cmp_isnot, xisAny, List.lookup]
theorem starts_dash (x : Str) : Txt.startswith x "-" = decide (x.cps.toList.head? = some 45) := by
  obtain ⟨⟨l⟩⟩ := x
  have e : ("-" : Str) = ⟨#[45]⟩ := by decide +kernel
  rw [e]
  cases l with
  | nil => rfl
  | cons c r =>
    have h1 : (⟨⟨c :: r⟩⟩ : Str).length = r.length + 1 := rfl
    have h2 : (⟨#[45]⟩ : Str).length = 1 := rfl
    unfold Txt.startswith Builtin.Str.subAt
    rw [h1, h2]
    have h3 : (⟨c :: r⟩ : Array Nat).extract 0 (0 + 1) = #[c] := by
      simp [List.extract_toArray]
    rw [h3]
    by_cases z : c = 45 <;> simp [z]
theorem take_dash (x : Str) (m : Sto) : cmpT .Eq (.str ⟨(x.cps.toList.take 1).toArray⟩) (.str "-") m = .ok (.bl (Txt.startswith x "-")) m := by
  rw [starts_dash]
  obtain ⟨⟨l⟩⟩ := x
  have e : ("-" : Str) = ⟨#[45]⟩ := by decide +kernel
  rw [e]
  cases l with
  | nil =>
    show Rs.ok (T.bl (decide _)) m = _
    congr 2
  | cons c r =>
    show Rs.ok (T.bl (decide ((⟨#[c]⟩ : Str) = ⟨#[45]⟩))) m = _
    congr 2
    simp
theorem all_dg (x : Str) (s0 s2 : Option T) (m : Sto) : compL (turnC (.one 2) [] (.cmp .In (.var 2) (.cst (.str "0123456789"))) [s0, some (.str x), s2] ⟨x.cps.toList.map fun c => T.str ⟨#[c]⟩, none⟩) (x.cps.toList.map fun c => T.str ⟨#[c]⟩) [] m = .ok (.lst ((x.cps.toList.map fun c => memS c DG).map .bl)) m := by
  refine Eq.trans (compL_st (n := none) trivial (fun t => match t with | .str s => .bl (memS (s.cps.toList.headD 0) DG) | _ => .non) ?_) ?_
  · intro t ht
    obtain ⟨c, hc, rfl⟩ := List.mem_map.mp ht
    simp (disch := first | assumption | rfl | exact mulOk_r (by omega) (by omega) | exact mulOk_l (by omega) (by omega) | exact divOk_s (by omega) (by omega) | omega | (simp only [List.length_cons, List.length_nil]; omega) | simp only [datT_tup, datT_lst, datT_int, datT_bl, datT_non, List.all_cons, List.all_nil, Bool.and_self, Bool.and_true]) [cmp_eqTup, cmp_neTup, cmp_eqLst, cmp_neLst, mod_int, mul_int, div_int, shr_int, cmp_is, cmp_isnot, xisAny, List.lookup, in_dg]
  · congr 2
    rw [List.map_map, List.map_map]
    rfl
theorem num_int {w : Str} (h : numB w = true) : PySem.intText? w = some (numV w) ∧ w.length ≤ 41 := by
  unfold numB figB at h
  rw [Bool.and_eq_true, Bool.and_eq_true, Bool.and_eq_true, decide_eq_true_eq, decide_eq_true_eq] at h
  obtain ⟨⟨h1, h2, h3⟩, _⟩ := h
  have ad : NumText.AllDigits (figS w).cps.toList := fun c hc => (dg_mem c).mp (List.all_eq_true.mp h3 c hc)
  have ne : (figS w).cps.toList ≠ [] := fun z => by
    have : (figS w).cps.toList.length = (figS w).length := rfl
    rw [z] at this
    simp at this
    omega
  unfold figS at *
  by_cases z : Txt.startswith w "-" = true
  · rw [if_pos z] at *
    rw [starts_dash, decide_eq_true_eq] at z
    obtain ⟨r, hr⟩ : ∃ r, w.cps.toList = 45 :: r := by
      cases q : w.cps.toList with
      | nil => rw [q] at z; cases z
      | cons c r =>
        rw [q] at z
        cases z
        exact ⟨r, rfl⟩
    have hw : w.length = r.length + 1 := by
      show w.cps.toList.length = _
      rw [hr]
      rfl
    have er : (⟨w.cps.toList.tail.toArray⟩ : Str).cps.toList = r := by rw [hr]; rfl
    have el : (⟨w.cps.toList.tail.toArray⟩ : Str).length = r.length := by
      show (⟨w.cps.toList.tail.toArray⟩ : Str).cps.toList.length = _
      rw [er]
    rw [er] at ad ne
    rw [el] at h2
    have q := PySem.intText_neg hr ad ne (by omega)
    refine ⟨?_, by omega⟩
    unfold numV
    rw [q]
    rfl
  · rw [if_neg z] at *
    have q := PySem.intText_digits ad ne (by omega)
    refine ⟨?_, by omega⟩
    unfold numV
    rw [q]
    rfl
theorem denSs_ap (A B : List MS) (e : Sl) (m : Sto) : denSs (A ++ B) e m = (denSs A e m).seq (denSs B) := by
  induction A generalizing e m with
  | nil => simp only [List.nil_append, denSs]; rfl
  | cons s A ih =>
    rw [List.cons_append]
    simp only [denSs]
    cases denS s e m with
    | nx e1 m1 => exact ih e1 m1
    | _ => rfl
theorem number2_rest {w : Str} {m : Sto} {K : PR T} (kt : numB w = true → K.ok (.int (numV w)) m) (kf : numB w = false → K.ex 3 [.int 0] m) : WS (denSs (b_number_of_2.drop 2) [some (.str w), some (.str (figS w)), none] m) (pOut K) := by
  have cm := fun s0 s2 m => all_dg (figS w) s0 s2 m
  have ba : bls (((figS w).cps.toList.map fun c => memS c DG).map T.bl) = some ((figS w).cps.toList.map fun c => memS c DG) := bls_map _
  have al : ((figS w).cps.toList.map fun c => memS c DG).all id = (figS w).cps.toList.all fun c => memS c DG := by rw [List.all_map]; rfl
  have hn : numB w = true → PySem.intText? w = some (numV w) ∧ w.length ≤ 41 := num_int
  have it : numB w = true → ∀ m, biT .int [.str w] m = .ok (.int (numV w)) m := fun h m => bi_intT m (by have := (hn h).2; omega) (hn h).1
  have ut := unless_t
  have uf := unless_f
  have fe : figB w = (decide (1 ≤ (figS w).length) && (decide ((figS w).length ≤ 40) && (figS w).cps.toList.all fun c => memS c DG)) := rfl
  have ne : numB w = (figB w && (decide ((⟨#[(figS w).cps.toList.headD 0]⟩ : Str) ≠ "0") || decide (w = "0"))) := rfl
  have ix : 1 ≤ (figS w).length → ∀ m, idxT (.str (figS w)) (.int 0) m = .ok (.str ⟨#[(figS w).cps.toList.headD 0]⟩) m := fun h m => by
    refine idx_str m ?_
    have : (figS w).cps.toList.length = (figS w).length := rfl
    cases q : (figS w).cps.toList with
    | nil => rw [q] at this; simp at this; omega
    | cons a r =>
      rw [show (0 : Int) = ((0 : Nat) : Int) from rfl]
      exact L2.atI_nat rfl
  generalize hs : ((figS w).cps.toList.map fun c => T.str ⟨#[c]⟩) = sg at cm
  have wk : ∀ m, walkT (.str (figS w)) m = some ⟨sg, none⟩ := fun m => by rw [walkT_str, hs]
  generalize ((figS w).cps.toList.map fun c => memS c DG) = bs at *
  generalize bs.map T.bl = L at *
  generalize (figS w).cps.toList.all (fun c => memS c DG) = ab at *
  generalize (⟨#[(figS w).cps.toList.headD 0]⟩ : Str) = hd at *
  generalize figS w = F at *
  simp only [b_number_of_2, List.drop_succ_cons, List.drop_zero]
  by_cases h1 : 1 ≤ F.length
  · have h1' : (1 : Int) ≤ (F.length : Int) := by omega
    have ix := ix h1
    by_cases h2 : F.length ≤ 40
    · have h2' : (F.length : Int) ≤ 40 := by omega
      cases ab with
      | true =>
        have fB : figB w = true := by rw [fe]; simp [h1, h2]
        by_cases h3 : hd = "0"
        · by_cases h4 : w = "0"
          · have nB : numB w = true := by rw [ne, fB]; simp [h4]
            have it := it nB
            have kt := kt nB
            subst h4
            simp (disch := first | assumption | rfl | exact mulOk_r (by omega) (by omega) | exact mulOk_l (by omega) (by omega) | exact divOk_s (by omega) (by omega) | omega | (simp only [List.length_cons, List.length_nil]; omega) | simp only [datT_tup, datT_lst, datT_int, datT_bl, datT_non, List.all_cons, List.all_nil, Bool.and_self, Bool.and_true]) [-bind_ite, -st_ite, -seq_ite, -out_ite, -lp_ite, -tryS_ite, -unb_ite, -toM_ite, -nox_ite, -drop_ite, cmp_eqTup, cmp_neTup, cmp_eqLst, cmp_neLst, mod_int, mul_int, div_int, shr_int, cmp_is, cmp_isnot, xisAny, List.lookup, -walkT_str, wk, h1', h2', cm, ba, al, ut, ix, h3, it]
            exact kt
          · have nB : numB w = false := by rw [ne, fB]; simp [h3, h4]
            have kf := kf nB
            simp (disch := first | assumption | rfl | exact mulOk_r (by omega) (by omega) | exact mulOk_l (by omega) (by omega) | exact divOk_s (by omega) (by omega) | omega | (simp only [List.length_cons, List.length_nil]; omega) | simp only [datT_tup, datT_lst, datT_int, datT_bl, datT_non, List.all_cons, List.all_nil, Bool.and_self, Bool.and_true]) [-bind_ite, -st_ite, -seq_ite, -out_ite, -lp_ite, -tryS_ite, -unb_ite, -toM_ite, -nox_ite, -drop_ite, cmp_eqTup, cmp_neTup, cmp_eqLst, cmp_neLst, mod_int, mul_int, div_int, shr_int, cmp_is, cmp_isnot, xisAny, List.lookup, -walkT_str, wk, h1', h2', cm, ba, al, ut, uf, ix, h3, h4]
            exact kf
        · have nB : numB w = true := by rw [ne, fB]; simp [h3]
          have it := it nB
          have kt := kt nB
          simp (disch := first | assumption | rfl | exact mulOk_r (by omega) (by omega) | exact mulOk_l (by omega) (by omega) | exact divOk_s (by omega) (by omega) | omega | (simp only [List.length_cons, List.length_nil]; omega) | simp only [datT_tup, datT_lst, datT_int, datT_bl, datT_non, List.all_cons, List.all_nil, Bool.and_self, Bool.and_true]) [-bind_ite, -st_ite, -seq_ite, -out_ite, -lp_ite, -tryS_ite, -unb_ite, -toM_ite, -nox_ite, -drop_ite, cmp_eqTup, cmp_neTup, cmp_eqLst, cmp_neLst, mod_int, mul_int, div_int, shr_int, cmp_is, cmp_isnot, xisAny, List.lookup, -walkT_str, wk, h1', h2', cm, ba, al, ut, ix, h3, it]
          exact kt
      | false =>
        have nB : numB w = false := by rw [ne, fe]; simp
        have kf := kf nB
        simp (disch := first | assumption | rfl | exact mulOk_r (by omega) (by omega) | exact mulOk_l (by omega) (by omega) | exact divOk_s (by omega) (by omega) | omega | (simp only [List.length_cons, List.length_nil]; omega) | simp only [datT_tup, datT_lst, datT_int, datT_bl, datT_non, List.all_cons, List.all_nil, Bool.and_self, Bool.and_true]) [-bind_ite, -st_ite, -seq_ite, -out_ite, -lp_ite, -tryS_ite, -unb_ite, -toM_ite, -nox_ite, -drop_ite, cmp_eqTup, cmp_neTup, cmp_eqLst, cmp_neLst, mod_int, mul_int, div_int, shr_int, cmp_is, cmp_isnot, xisAny, List.lookup, -walkT_str, wk, h1', h2', cm, ba, al, uf]
        exact kf
    · have h2' : ¬ (F.length : Int) ≤ 40 := by omega
      have nB : numB w = false := by rw [ne, fe]; simp [h2]
      have kf := kf nB
      simp (disch := first | assumption | rfl | exact mulOk_r (by omega) (by omega) | exact mulOk_l (by omega) (by omega) | exact divOk_s (by omega) (by omega) | omega | (simp only [List.length_cons, List.length_nil]; omega) | simp only [datT_tup, datT_lst, datT_int, datT_bl, datT_non, List.all_cons, List.all_nil, Bool.and_self, Bool.and_true]) [-bind_ite, -st_ite, -seq_ite, -out_ite, -lp_ite, -tryS_ite, -unb_ite, -toM_ite, -nox_ite, -drop_ite, cmp_eqTup, cmp_neTup, cmp_eqLst, cmp_neLst, mod_int, mul_int, div_int, shr_int, cmp_is, cmp_isnot, xisAny, List.lookup, h1', h2', uf]
      exact kf
  · have h1' : ¬ (1 : Int) ≤ (F.length : Int) := by omega
    have nB : numB w = false := by rw [ne, fe]; simp [h1]
    have kf := kf nB
    simp (disch := first | assumption | rfl | exact mulOk_r (by omega) (by omega) | exact mulOk_l (by omega) (by omega) | exact divOk_s (by omega) (by omega) | omega | (simp only [List.length_cons, List.length_nil]; omega) | simp only [datT_tup, datT_lst, datT_int, datT_bl, datT_non, List.all_cons, List.all_nil, Bool.and_self, Bool.and_true]) [-bind_ite, -st_ite, -seq_ite, -out_ite, -lp_ite, -tryS_ite, -unb_ite, -toM_ite, -nox_ite, -drop_ite, cmp_eqTup, cmp_neTup, cmp_eqLst, cmp_neLst, mod_int, mul_int, div_int, shr_int, cmp_is, cmp_isnot, xisAny, List.lookup, h1', uf]
    exact kf
theorem number2_w {w : Str} {m : Sto} {K : PR T} (kt : numB w = true → K.ok (.int (numV w)) m) (kf : numB w = false → K.ex 3 [.int 0] m) : W (f_number_of_2 [.str w] m) K := by
  have rest := number2_rest kt kf
  obtain ⟨B, hB⟩ : ∃ B, B = b_number_of_2.drop 2 := ⟨_, rfl⟩
  have e3 : b_number_of_2 = b_number_of_2.take 2 ++ B := by rw [hB]; exact (List.take_append_drop 2 _).symm
  rw [← hB] at rest
  rw [e_number_of_2, e3, denSs_ap, W_out, WS_seq]
  clear e3 hB
  simp only [b_number_of_2, List.take_succ_cons, List.take_zero]
  unfold figS at rest
  by_cases z : Txt.startswith w "-" = true
  · rw [if_pos z] at rest
    simp (disch := first | assumption | rfl | exact mulOk_r (by omega) (by omega) | exact mulOk_l (by omega) (by omega) | exact divOk_s (by omega) (by omega) | omega | (simp only [List.length_cons, List.length_nil]; omega) | simp only [datT_tup, datT_lst, datT_int, datT_bl, datT_non, List.all_cons, List.all_nil, Bool.and_self, Bool.and_true]) [-bind_ite, -st_ite, -seq_ite, -out_ite, -lp_ite, -tryS_ite, -unb_ite, -toM_ite, -nox_ite, -drop_ite, cmp_eqTup, cmp_neTup, cmp_eqLst, cmp_neLst, mod_int, mul_int, div_int, shr_int, cmp_is, cmp_isnot, xisAny, List.lookup, z]
    exact rest
  · rw [if_neg z] at rest
    rw [Bool.not_eq_true] at z
    simp (disch := first | assumption | rfl | exact mulOk_r (by omega) (by omega) | exact mulOk_l (by omega) (by omega) | exact divOk_s (by omega) (by omega) | omega | (simp only [List.length_cons, List.length_nil]; omega) | simp only [datT_tup, datT_lst, datT_int, datT_bl, datT_non, List.all_cons, List.all_nil, Bool.and_self, Bool.and_true]) [-bind_ite, -st_ite, -seq_ite, -out_ite, -lp_ite, -tryS_ite, -unb_ite, -toM_ite, -nox_ite, -drop_ite, cmp_eqTup, cmp_neTup, cmp_eqLst, cmp_neLst, mod_int, mul_int, div_int, shr_int, cmp_is, cmp_isnot, xisAny, List.lookup, z]
    exact rest
/-! texts of numbers -/
def iS (v : Int) : Str := Str.ofString (toString v)
theorem iS_nat (n : Nat) : (iS (n : Int)).cps.toList = TL.numL n := TL.tl_num n
theorem iS_neg (n : Nat) : (iS (Int.negSucc n)).cps.toList = 45 :: TL.numL (n + 1) := by
  have e : toString (Int.negSucc n) = "-" ++ toString ((n + 1 : Nat) : Int) := rfl
  have h := iS_nat (n + 1)
  unfold iS at *
  rw [PySem.Str.ofString_eq_toList] at h ⊢
  rw [e, String.toList_append]
  show (List.map _ _) = _
  rw [List.map_append]
  have h : List.map Char.toNat (toString ((n + 1 : Nat) : Int)).toList = TL.numL (n + 1) := h
  rw [h]
  rfl
theorem numL_head : ∀ n : Nat, n ≠ 0 → (TL.numL n).headD 0 ≠ 48 := by
  intro n
  induction n using Nat.strongRecOn with
  | _ n ih =>
    intro h
    by_cases z : n < 10
    · rw [TL.numL_lt z]
      show 48 + n ≠ 48
      omega
    · rw [TL.numL_step (by omega)]
      have q := ih (n / 10) (by omega) (by omega)
      cases e : TL.numL (n / 10) with
      | nil => exact absurd e (TL.numL_ne _)
      | cons a r =>
        rw [e] at q
        exact q
theorem dig_all {l : List Nat} (h : NumText.AllDigits l) : (l.all fun c => memS c DG) = true := List.all_eq_true.mpr fun c hc => (dg_mem c).mpr (h c hc)
theorem one_ne {c : Nat} (h : c ≠ 48) : (⟨#[c]⟩ : Str) ≠ "0" := fun e => by
  have e0 : ("0" : Str) = ⟨#[48]⟩ := by decide +kernel
  rw [e0] at e
  injection e with e
  simp at e
  exact h e
theorem fig_nat (n : Nat) : figS (iS (n : Int)) = iS (n : Int) := by
  unfold figS
  rw [starts_dash, iS_nat, if_neg]
  rw [decide_eq_true_eq]
  have d := TL.numL_digits n
  cases e : TL.numL n with
  | nil => simp
  | cons a r =>
    rw [e] at d
    have := d a List.mem_cons_self
    intro z
    cases z
    omega
theorem fig_neg (n : Nat) : figS (iS (Int.negSucc n)) = iS ((n + 1 : Nat) : Int) := by
  unfold figS
  rw [starts_dash, iS_neg, if_pos (by simp)]
  refine TL.ext_tl ?_
  exact (iS_nat (n + 1)).symm
theorem figB_of {w : Str} {n : Nat} (h : figS w = iS (n : Int)) (hn : n < 10 ^ 40) : figB w = true := by
  unfold figB
  rw [h, iS_nat]
  have l1 : (iS (n : Int)).length = (TL.numL n).length := by
    rw [← iS_nat]
    rfl
  have l2 := TL.numL_len (k := 40) (by omega) hn
  have l3 : 1 ≤ (TL.numL n).length := List.length_pos_iff.mpr (TL.numL_ne n)
  rw [l1, dig_all (TL.numL_digits n)]
  simp [l2, l3]
theorem num_iS {v : Int} (h0 : -(10 ^ 40) < v) (h1 : v < 10 ^ 40) : numB (iS v) = true ∧ numV (iS v) = v := by
  cases v with
  | ofNat n =>
    have hn : n < 10 ^ 40 := by
      have : Int.ofNat n = (n : Int) := rfl
      omega
    have fb := figB_of (fig_nat n) hn
    have l2 := TL.numL_len (k := 40) (by omega) hn
    constructor
    · unfold numB
      show (figB (iS (n : Int)) && _) = true
      rw [fb]
      show (decide ((⟨#[(figS (iS (n : Int))).cps.toList.headD 0]⟩ : Str) ≠ "0") || decide (iS (n : Int) = "0")) = true
      rw [fig_nat, iS_nat]
      by_cases z : n = 0
      · subst z
        rw [Bool.or_eq_true]
        exact .inr (by decide +kernel)
      · rw [decide_eq_true (one_ne (numL_head n z))]
        rfl
    · unfold numV
      show (PySem.intText? (Str.ofString (toString (n : Int)))).getD 0 = _
      rw [TL.int_num (by omega)]
      rfl
  | negSucc n =>
    have hn : n + 1 < 10 ^ 40 := by
      have : Int.negSucc n = -((n : Int) + 1) := rfl
      omega
    have fb := figB_of (fig_neg n) hn
    have l2 := TL.numL_len (k := 40) (by omega) hn
    have nB : numB (iS (Int.negSucc n)) = true := by
      unfold numB
      rw [fb, fig_neg, iS_nat, decide_eq_true (one_ne (numL_head (n + 1) (by omega)))]
      rfl
    refine ⟨nB, ?_⟩
    have q := PySem.intText_neg (iS_neg n) (TL.numL_digits _) (TL.numL_ne _) (by have := (num_int nB).2; omega)
    unfold numV
    rw [q, TL.numL_val]
    rfl
end NH
namespace NH
open PySem PySem.Spec BV
/-! words, one by one -/
def wdC (ws : List Str) (a : Nat) : Cell := .ins 23 [.lst (ws.map .str), .int a]
/-- nothing but the cell n has changed -/
def Kq (n : Nat) (m m' : Sto) : Prop := ∀ k : Nat, k ≠ n → m'[k]? = m[k]?
theorem kq_refl (n : Nat) (m : Sto) : Kq n m m := fun _ _ => rfl
theorem kq_set (n : Nat) (m : Sto) (c : Cell) : Kq n m (m.set n c) := fun k h => List.getElem?_set_ne (fun e => h e.symm)
/-- the cells of before stay -/
def Kp (m m' : Sto) : Prop := ∀ (k : Nat) (c : Cell), m[k]? = some c → m'[k]? = some c
theorem kp_app (m l : Sto) : Kp m (m ++ l) := fun _ _ h => ga_l h
theorem Kp.set {m m1 : Sto} {n : Nat} (h : Kp m m1) (hn : ∀ (k : Nat) (c : Cell), m[k]? = some c → k ≠ n) (c : Cell) : Kp m (m1.set n c) := fun k d q => by
  rw [List.getElem?_set_ne (fun e => hn k d q e.symm)]
  exact h k d q
theorem Kp.kq {m m1 m' : Sto} {n : Nat} (h : Kp m m1) (hn : ∀ (k : Nat) (c : Cell), m[k]? = some c → k ≠ n) (q : Kq n m1 m') : Kp m m' := fun k d e => by
  rw [q k (hn k d e)]
  exact h k d e
theorem Kp.trans {a b c : Sto} (h : Kp a b) (g : Kp b c) : Kp a c := fun k d e => g k d (h k d e)
theorem fset_ix {fs : List (Nat × Nat)} {n c i : Nat} {xs : List T} {v : T} {m : Sto} (g : m[n]? = some (.ins c xs)) (h : fs.lookup c = some i) (hi : i < xs.length) : fsetT fs (.hd n) v m = some (m.set n (.ins c (xs.set i v))) := by
  unfold fsetT
  dsimp only
  rw [g]
  dsimp only
  rw [h]
  dsimp only
  rw [if_pos hi]
theorem next_word_w {ws : List Str} {a n : Nat} {m : Sto} (g : m[n]? = some (wdC ws a)) (ha : a ≤ ws.length) {K : PR T} (kt : ∀ x, ws[a]? = some x → K.ok (.str x) (m.set n (wdC ws (a + 1)))) (kf : ws.length = a → K.ex 3 [.int 0] m) : W (f_Words_next_word [.hd n] m) K := by
  have c := clsOf_hd g
  have ut := unless_t
  have uf := unless_f
  have lw : (ws.map T.str).length = ws.length := List.length_map _
  rw [e_Words_next_word, b_Words_next_word]
  by_cases h : a < ws.length
  · have h' : (a : Int) < (ws.length : Int) := by omega
    have hx : ws[a]? = some ws[a] := List.getElem?_eq_getElem h
    have fs := fset_ix (fs := [(23, 1)]) (v := .int ((a : Int) + 1)) g rfl (by simp)
    have c2 := clsOf_hd (gs_same (c := wdC ws (a + 1)) g)
    have e1 : Cell.ins 23 ([T.lst (ws.map .str), .int a].set 1 (.int ((a : Int) + 1))) = wdC ws (a + 1) := by
      unfold wdC
      push_cast
      rfl
    rw [e1] at fs
    have ix : L2.atI (ws.map T.str) (a : Int) = some (.str ws[a]) := L2.atI_nat (by rw [List.getElem?_map, hx]; rfl)
    have kt := kt _ hx
    have e2 : ((a + 1 : Nat) : Int) - 1 = a := by omega
    have c3 : clsOf (m.set n (wdC ws (a + 1))) (.hd n) = some (23, [.lst (ws.map T.str), .int ((a : Int) + 1)]) := by rw [c2]; push_cast; rfl
    have e3 : (a : Int) + 1 - 1 = a := by omega
    unfold wdC at c
    generalize hc : m.set n (wdC ws (a + 1)) = m2 at *
    simp (disch := first | assumption | rfl | exact mulOk_r (by omega) (by omega) | exact mulOk_l (by omega) (by omega) | exact divOk_s (by omega) (by omega) | omega | (simp only [List.length_cons, List.length_nil]; omega) | simp only [datT_tup, datT_lst, datT_int, datT_bl, datT_non, List.all_cons, List.all_nil, Bool.and_self, Bool.and_true]) [-bind_ite, -st_ite, -seq_ite, -out_ite, -lp_ite, -tryS_ite, -unb_ite, -toM_ite, -nox_ite, -drop_ite, cmp_eqTup, cmp_neTup, cmp_eqLst, cmp_neLst, mod_int, mul_int, div_int, shr_int, cmp_is, cmp_isnot, xisAny, List.lookup, c, ut, h', lw, fs, c3, ix, e3]
    exact kt
  · have h' : ¬ (a : Int) < (ws.length : Int) := by omega
    unfold wdC at c
    simp (disch := first | assumption | rfl | exact mulOk_r (by omega) (by omega) | exact mulOk_l (by omega) (by omega) | exact divOk_s (by omega) (by omega) | omega | (simp only [List.length_cons, List.length_nil]; omega) | simp only [datT_tup, datT_lst, datT_int, datT_bl, datT_non, List.all_cons, List.all_nil, Bool.and_self, Bool.and_true]) [-bind_ite, -st_ite, -seq_ite, -out_ite, -lp_ite, -tryS_ite, -unb_ite, -toM_ite, -nox_ite, -drop_ite, cmp_eqTup, cmp_neTup, cmp_eqLst, cmp_neLst, mod_int, mul_int, div_int, shr_int, cmp_is, cmp_isnot, xisAny, List.lookup, c, uf, h', lw]
    exact kf (by omega)
theorem any_txts (x : Str) : ∀ L : List Str, ((L.map T.str).any fun y => eqF y (.str x)) = decide (x ∈ L)
  | [] => rfl
  | y :: L => by
    rw [List.map_cons, List.any_cons, any_txts x L]
    show (decide (y = x) || decide (x ∈ L)) = _
    by_cases z : y = x
    · subst z
      simp
    · have z' : ¬ x = y := fun e => z e.symm
      simp [z, z']
theorem in_txts (L : List Str) (x : Str) (m : Sto) : cmpT .In (.str x) (.tup (L.map T.str)) m = .ok (.bl (decide (x ∈ L))) m := by
  have h : inF (.str x) (L.map T.str) = some (decide (x ∈ L)) := by
    unfold inF
    rw [if_pos (by simp [flatT]), any_txts]
  unfold cmpT cmpB inT
  dsimp only
  rw [seqOf_tup]
  dsimp only
  rw [h]
theorem one_of_w {ws : List Str} {a n : Nat} {m : Sto} (g : m[n]? = some (wdC ws a)) (ha : a ≤ ws.length) {L : List Str} {K : PR T} (kt : ∀ x, ws[a]? = some x → x ∈ L → K.ok (.str x) (m.set n (wdC ws (a + 1)))) (kf : (∀ x, ws[a]? = some x → x ∉ L) → ∀ m', Kq n m m' → K.ex 3 [.int 0] m') : W (f_Words_one_of [.hd n, .tup (L.map .str)] m) K := by
  have mt := methF_hd (fs := [(23, f_Words_next_word)]) g
  have ut := unless_t
  have uf := unless_f
  have nw := fun (K : PR T) => next_word_w (K := K) g ha
  have inn := fun (x : Str) m => in_txts L x m
  rw [e_Words_one_of, b_Words_one_of]
  generalize L.map T.str = LL at *
  simp (disch := first | assumption | rfl | exact mulOk_r (by omega) (by omega) | exact mulOk_l (by omega) (by omega) | exact divOk_s (by omega) (by omega) | omega | (simp only [List.length_cons, List.length_nil]; omega) | simp only [datT_tup, datT_lst, datT_int, datT_bl, datT_non, List.all_cons, List.all_nil, Bool.and_self, Bool.and_true]) [-bind_ite, -st_ite, -seq_ite, -out_ite, -lp_ite, -tryS_ite, -unb_ite, -toM_ite, -nox_ite, -drop_ite, cmp_eqTup, cmp_neTup, cmp_eqLst, cmp_neLst, mod_int, mul_int, div_int, shr_int, cmp_is, cmp_isnot, xisAny, List.lookup, mt]
  refine nw _ (fun x hx => ?_) (fun h => ?_)
  · by_cases z : x ∈ L
    · simp (disch := first | assumption | rfl | exact mulOk_r (by omega) (by omega) | exact mulOk_l (by omega) (by omega) | exact divOk_s (by omega) (by omega) | omega | (simp only [List.length_cons, List.length_nil]; omega) | simp only [datT_tup, datT_lst, datT_int, datT_bl, datT_non, List.all_cons, List.all_nil, Bool.and_self, Bool.and_true]) [-bind_ite, -st_ite, -seq_ite, -out_ite, -lp_ite, -tryS_ite, -unb_ite, -toM_ite, -nox_ite, -drop_ite, cmp_eqTup, cmp_neTup, cmp_eqLst, cmp_neLst, mod_int, mul_int, div_int, shr_int, cmp_is, cmp_isnot, xisAny, List.lookup, inn, z, ut]
      exact kt x hx z
    · simp (disch := first | assumption | rfl | exact mulOk_r (by omega) (by omega) | exact mulOk_l (by omega) (by omega) | exact divOk_s (by omega) (by omega) | omega | (simp only [List.length_cons, List.length_nil]; omega) | simp only [datT_tup, datT_lst, datT_int, datT_bl, datT_non, List.all_cons, List.all_nil, Bool.and_self, Bool.and_true]) [-bind_ite, -st_ite, -seq_ite, -out_ite, -lp_ite, -tryS_ite, -unb_ite, -toM_ite, -nox_ite, -drop_ite, cmp_eqTup, cmp_neTup, cmp_eqLst, cmp_neLst, mod_int, mul_int, div_int, shr_int, cmp_is, cmp_isnot, xisAny, List.lookup, inn, z, uf]
      exact kf (fun y hy => by rw [hx] at hy; cases hy; exact z) _ (by first | exact kq_refl _ _ | exact kq_set _ _ _)
  · simp (disch := first | assumption | rfl | exact mulOk_r (by omega) (by omega) | exact mulOk_l (by omega) (by omega) | exact divOk_s (by omega) (by omega) | omega | (simp only [List.length_cons, List.length_nil]; omega) | simp only [datT_tup, datT_lst, datT_int, datT_bl, datT_non, List.all_cons, List.all_nil, Bool.and_self, Bool.and_true]) [-bind_ite, -st_ite, -seq_ite, -out_ite, -lp_ite, -tryS_ite, -unb_ite, -toM_ite, -nox_ite, -drop_ite, cmp_eqTup, cmp_neTup, cmp_eqLst, cmp_neLst, mod_int, mul_int, div_int, shr_int, cmp_is, cmp_isnot, xisAny, List.lookup]
    exact kf (fun y hy => by
      have := (List.getElem?_eq_some_iff.mp hy).1
      omega) _ (by first | exact kq_refl _ _ | exact kq_set _ _ _)
theorem next_number_w {ws : List Str} {a n : Nat} {m : Sto} (g : m[n]? = some (wdC ws a)) (ha : a ≤ ws.length) {K : PR T} (kt : ∀ x, ws[a]? = some x → numB x = true → K.ok (.int (numV x)) (m.set n (wdC ws (a + 1)))) (kf : (∀ x, ws[a]? = some x → numB x = false) → ∀ m', Kq n m m' → K.ex 3 [.int 0] m') : W (f_Words_next_number [.hd n] m) K := by
  have mt := methF_hd (fs := [(23, f_Words_next_word)]) g
  have nw := fun (K : PR T) => next_word_w (K := K) g ha
  rw [e_Words_next_number, b_Words_next_number]
  simp (disch := first | assumption | rfl | exact mulOk_r (by omega) (by omega) | exact mulOk_l (by omega) (by omega) | exact divOk_s (by omega) (by omega) | omega | (simp only [List.length_cons, List.length_nil]; omega) | simp only [datT_tup, datT_lst, datT_int, datT_bl, datT_non, List.all_cons, List.all_nil, Bool.and_self, Bool.and_true]) [-bind_ite, -st_ite, -seq_ite, -out_ite, -lp_ite, -tryS_ite, -unb_ite, -toM_ite, -nox_ite, -drop_ite, cmp_eqTup, cmp_neTup, cmp_eqLst, cmp_neLst, mod_int, mul_int, div_int, shr_int, cmp_is, cmp_isnot, xisAny, List.lookup, mt]
  refine nw _ (fun x hx => ?_) (fun h => ?_)
  · simp (disch := first | assumption | rfl | exact mulOk_r (by omega) (by omega) | exact mulOk_l (by omega) (by omega) | exact divOk_s (by omega) (by omega) | omega | (simp only [List.length_cons, List.length_nil]; omega) | simp only [datT_tup, datT_lst, datT_int, datT_bl, datT_non, List.all_cons, List.all_nil, Bool.and_self, Bool.and_true]) [-bind_ite, -st_ite, -seq_ite, -out_ite, -lp_ite, -tryS_ite, -unb_ite, -toM_ite, -nox_ite, -drop_ite, cmp_eqTup, cmp_neTup, cmp_eqLst, cmp_neLst, mod_int, mul_int, div_int, shr_int, cmp_is, cmp_isnot, xisAny, List.lookup]
    refine number2_w (fun z => ?_) (fun z => ?_)
    · simp (disch := first | assumption | rfl | exact mulOk_r (by omega) (by omega) | exact mulOk_l (by omega) (by omega) | exact divOk_s (by omega) (by omega) | omega | (simp only [List.length_cons, List.length_nil]; omega) | simp only [datT_tup, datT_lst, datT_int, datT_bl, datT_non, List.all_cons, List.all_nil, Bool.and_self, Bool.and_true]) [-bind_ite, -st_ite, -seq_ite, -out_ite, -lp_ite, -tryS_ite, -unb_ite, -toM_ite, -nox_ite, -drop_ite, cmp_eqTup, cmp_neTup, cmp_eqLst, cmp_neLst, mod_int, mul_int, div_int, shr_int, cmp_is, cmp_isnot, xisAny, List.lookup]
      exact kt x hx z
    · simp (disch := first | assumption | rfl | exact mulOk_r (by omega) (by omega) | exact mulOk_l (by omega) (by omega) | exact divOk_s (by omega) (by omega) | omega | (simp only [List.length_cons, List.length_nil]; omega) | simp only [datT_tup, datT_lst, datT_int, datT_bl, datT_non, List.all_cons, List.all_nil, Bool.and_self, Bool.and_true]) [-bind_ite, -st_ite, -seq_ite, -out_ite, -lp_ite, -tryS_ite, -unb_ite, -toM_ite, -nox_ite, -drop_ite, cmp_eqTup, cmp_neTup, cmp_eqLst, cmp_neLst, mod_int, mul_int, div_int, shr_int, cmp_is, cmp_isnot, xisAny, List.lookup]
      exact kf (fun y hy => by rw [hx] at hy; cases hy; exact z) _ (by first | exact kq_refl _ _ | exact kq_set _ _ _)
  · simp (disch := first | assumption | rfl | exact mulOk_r (by omega) (by omega) | exact mulOk_l (by omega) (by omega) | exact divOk_s (by omega) (by omega) | omega | (simp only [List.length_cons, List.length_nil]; omega) | simp only [datT_tup, datT_lst, datT_int, datT_bl, datT_non, List.all_cons, List.all_nil, Bool.and_self, Bool.and_true]) [-bind_ite, -st_ite, -seq_ite, -out_ite, -lp_ite, -tryS_ite, -unb_ite, -toM_ite, -nox_ite, -drop_ite, cmp_eqTup, cmp_neTup, cmp_eqLst, cmp_neLst, mod_int, mul_int, div_int, shr_int, cmp_is, cmp_isnot, xisAny, List.lookup]
    exact kf (fun y hy => by
      have := (List.getElem?_eq_some_iff.mp hy).1
      omega) _ (by first | exact kq_refl _ _ | exact kq_set _ _ _)
theorem next_holder_w {ws : List Str} {a n : Nat} {m : Sto} (g : m[n]? = some (wdC ws a)) (ha : a ≤ ws.length) {K : PR T} (kt : ∀ x, ws[a]? = some x → holdB x = true → K.ok (.str x) (m.set n (wdC ws (a + 1)))) (kf : (∀ x, ws[a]? = some x → holdB x = false) → ∀ m', Kq n m m' → K.ex 3 [.int 0] m') : W (f_Words_next_holder [.hd n] m) K := by
  have mt := methF_hd (fs := [(23, f_Words_next_word)]) g
  have ut := unless_t
  have uf := unless_f
  have nw := fun (K : PR T) => next_word_w (K := K) g ha
  rw [e_Words_next_holder, b_Words_next_holder]
  simp (disch := first | assumption | rfl | exact mulOk_r (by omega) (by omega) | exact mulOk_l (by omega) (by omega) | exact divOk_s (by omega) (by omega) | omega | (simp only [List.length_cons, List.length_nil]; omega) | simp only [datT_tup, datT_lst, datT_int, datT_bl, datT_non, List.all_cons, List.all_nil, Bool.and_self, Bool.and_true]) [-bind_ite, -st_ite, -seq_ite, -out_ite, -lp_ite, -tryS_ite, -unb_ite, -toM_ite, -nox_ite, -drop_ite, cmp_eqTup, cmp_neTup, cmp_eqLst, cmp_neLst, mod_int, mul_int, div_int, shr_int, cmp_is, cmp_isnot, xisAny, List.lookup, mt]
  refine nw _ (fun x hx => ?_) (fun h => ?_)
  · cases z : holdB x with
    | true =>
      simp (disch := first | assumption | rfl | exact mulOk_r (by omega) (by omega) | exact mulOk_l (by omega) (by omega) | exact divOk_s (by omega) (by omega) | omega | (simp only [List.length_cons, List.length_nil]; omega) | simp only [datT_tup, datT_lst, datT_int, datT_bl, datT_non, List.all_cons, List.all_nil, Bool.and_self, Bool.and_true]) [-bind_ite, -st_ite, -seq_ite, -out_ite, -lp_ite, -tryS_ite, -unb_ite, -toM_ite, -nox_ite, -drop_ite, cmp_eqTup, cmp_neTup, cmp_eqLst, cmp_neLst, mod_int, mul_int, div_int, shr_int, cmp_is, cmp_isnot, xisAny, List.lookup, holder_str, z, ut]
      exact kt x hx z
    | false =>
      simp (disch := first | assumption | rfl | exact mulOk_r (by omega) (by omega) | exact mulOk_l (by omega) (by omega) | exact divOk_s (by omega) (by omega) | omega | (simp only [List.length_cons, List.length_nil]; omega) | simp only [datT_tup, datT_lst, datT_int, datT_bl, datT_non, List.all_cons, List.all_nil, Bool.and_self, Bool.and_true]) [-bind_ite, -st_ite, -seq_ite, -out_ite, -lp_ite, -tryS_ite, -unb_ite, -toM_ite, -nox_ite, -drop_ite, cmp_eqTup, cmp_neTup, cmp_eqLst, cmp_neLst, mod_int, mul_int, div_int, shr_int, cmp_is, cmp_isnot, xisAny, List.lookup, holder_str, z, uf]
      exact kf (fun y hy => by rw [hx] at hy; cases hy; exact z) _ (by first | exact kq_refl _ _ | exact kq_set _ _ _)
  · simp (disch := first | assumption | rfl | exact mulOk_r (by omega) (by omega) | exact mulOk_l (by omega) (by omega) | exact divOk_s (by omega) (by omega) | omega | (simp only [List.length_cons, List.length_nil]; omega) | simp only [datT_tup, datT_lst, datT_int, datT_bl, datT_non, List.all_cons, List.all_nil, Bool.and_self, Bool.and_true]) [-bind_ite, -st_ite, -seq_ite, -out_ite, -lp_ite, -tryS_ite, -unb_ite, -toM_ite, -nox_ite, -drop_ite, cmp_eqTup, cmp_neTup, cmp_eqLst, cmp_neLst, mod_int, mul_int, div_int, shr_int, cmp_is, cmp_isnot, xisAny, List.lookup]
    exact kf (fun y hy => by
      have := (List.getElem?_eq_some_iff.mp hy).1
      omega) _ (by first | exact kq_refl _ _ | exact kq_set _ _ _)
theorem house_in_w {ws : List Str} {a n : Nat} {m : Sto} (g : m[n]? = some (wdC ws a)) (ha : a ≤ ws.length) {K : PR T} (kt : ∀ x, ws[a]? = some x → (x = "any" ∨ numB x = true) → K.ok (if x = "any" then .non else .int (numV x)) (m.set n (wdC ws (a + 1)))) (kf : (∀ x, ws[a]? = some x → ¬ (x = "any" ∨ numB x = true)) → ∀ m', Kq n m m' → K.ex 3 [.int 0] m') : W (f_house_in [.hd n] m) K := by
  have mt := methF_hd (fs := [(23, f_Words_next_word)]) g
  have nw := fun (K : PR T) => next_word_w (K := K) g ha
  rw [e_house_in, b_house_in]
  simp (disch := first | assumption | rfl | exact mulOk_r (by omega) (by omega) | exact mulOk_l (by omega) (by omega) | exact divOk_s (by omega) (by omega) | omega | (simp only [List.length_cons, List.length_nil]; omega) | simp only [datT_tup, datT_lst, datT_int, datT_bl, datT_non, List.all_cons, List.all_nil, Bool.and_self, Bool.and_true]) [-bind_ite, -st_ite, -seq_ite, -out_ite, -lp_ite, -tryS_ite, -unb_ite, -toM_ite, -nox_ite, -drop_ite, cmp_eqTup, cmp_neTup, cmp_eqLst, cmp_neLst, mod_int, mul_int, div_int, shr_int, cmp_is, cmp_isnot, xisAny, List.lookup, mt]
  refine nw _ (fun x hx => ?_) (fun h => ?_)
  · by_cases z : x = "any"
    · have kt := kt x hx (.inl z)
      rw [if_pos z] at kt
      simp (disch := first | assumption | rfl | exact mulOk_r (by omega) (by omega) | exact mulOk_l (by omega) (by omega) | exact divOk_s (by omega) (by omega) | omega | (simp only [List.length_cons, List.length_nil]; omega) | simp only [datT_tup, datT_lst, datT_int, datT_bl, datT_non, List.all_cons, List.all_nil, Bool.and_self, Bool.and_true]) [-bind_ite, -st_ite, -seq_ite, -out_ite, -lp_ite, -tryS_ite, -unb_ite, -toM_ite, -nox_ite, -drop_ite, cmp_eqTup, cmp_neTup, cmp_eqLst, cmp_neLst, mod_int, mul_int, div_int, shr_int, cmp_is, cmp_isnot, xisAny, List.lookup, z]
      exact kt
    · simp (disch := first | assumption | rfl | exact mulOk_r (by omega) (by omega) | exact mulOk_l (by omega) (by omega) | exact divOk_s (by omega) (by omega) | omega | (simp only [List.length_cons, List.length_nil]; omega) | simp only [datT_tup, datT_lst, datT_int, datT_bl, datT_non, List.all_cons, List.all_nil, Bool.and_self, Bool.and_true]) [-bind_ite, -st_ite, -seq_ite, -out_ite, -lp_ite, -tryS_ite, -unb_ite, -toM_ite, -nox_ite, -drop_ite, cmp_eqTup, cmp_neTup, cmp_eqLst, cmp_neLst, mod_int, mul_int, div_int, shr_int, cmp_is, cmp_isnot, xisAny, List.lookup, z]
      refine number2_w (fun y => ?_) (fun y => ?_)
      · have kt := kt x hx (.inr y)
        rw [if_neg z] at kt
        simp (disch := first | assumption | rfl | exact mulOk_r (by omega) (by omega) | exact mulOk_l (by omega) (by omega) | exact divOk_s (by omega) (by omega) | omega | (simp only [List.length_cons, List.length_nil]; omega) | simp only [datT_tup, datT_lst, datT_int, datT_bl, datT_non, List.all_cons, List.all_nil, Bool.and_self, Bool.and_true]) [-bind_ite, -st_ite, -seq_ite, -out_ite, -lp_ite, -tryS_ite, -unb_ite, -toM_ite, -nox_ite, -drop_ite, cmp_eqTup, cmp_neTup, cmp_eqLst, cmp_neLst, mod_int, mul_int, div_int, shr_int, cmp_is, cmp_isnot, xisAny, List.lookup]
        exact kt
      · simp (disch := first | assumption | rfl | exact mulOk_r (by omega) (by omega) | exact mulOk_l (by omega) (by omega) | exact divOk_s (by omega) (by omega) | omega | (simp only [List.length_cons, List.length_nil]; omega) | simp only [datT_tup, datT_lst, datT_int, datT_bl, datT_non, List.all_cons, List.all_nil, Bool.and_self, Bool.and_true]) [-bind_ite, -st_ite, -seq_ite, -out_ite, -lp_ite, -tryS_ite, -unb_ite, -toM_ite, -nox_ite, -drop_ite, cmp_eqTup, cmp_neTup, cmp_eqLst, cmp_neLst, mod_int, mul_int, div_int, shr_int, cmp_is, cmp_isnot, xisAny, List.lookup]
        exact kf (fun y' hy => by
          rw [hx] at hy
          cases hy
          rintro (q | q)
          · exact z q
          · rw [y] at q; cases q) _ (by first | exact kq_refl _ _ | exact kq_set _ _ _)
  · simp (disch := first | assumption | rfl | exact mulOk_r (by omega) (by omega) | exact mulOk_l (by omega) (by omega) | exact divOk_s (by omega) (by omega) | omega | (simp only [List.length_cons, List.length_nil]; omega) | simp only [datT_tup, datT_lst, datT_int, datT_bl, datT_non, List.all_cons, List.all_nil, Bool.and_self, Bool.and_true]) [-bind_ite, -st_ite, -seq_ite, -out_ite, -lp_ite, -tryS_ite, -unb_ite, -toM_ite, -nox_ite, -drop_ite, cmp_eqTup, cmp_neTup, cmp_eqLst, cmp_neLst, mod_int, mul_int, div_int, shr_int, cmp_is, cmp_isnot, xisAny, List.lookup]
    exact kf (fun y hy => by
      have := (List.getElem?_eq_some_iff.mp hy).1
      omega) _ (by first | exact kq_refl _ _ | exact kq_set _ _ _)
theorem close_w {ws : List Str} {a n : Nat} {m : Sto} (g : m[n]? = some (wdC ws a)) {K : PR T} (kt : ws.length = a → K.ok .non m) (kf : ws.length ≠ a → ∀ m', Kq n m m' → K.ex 3 [.int 0] m') : W (f_Words_close_2 [.hd n] m) K := by
  have c := clsOf_hd g
  have ut := unless_t
  have uf := unless_f
  have lw : (ws.map T.str).length = ws.length := List.length_map _
  rw [e_Words_close_2, b_Words_close_2]
  unfold wdC at c
  by_cases z : ws.length = a
  · have z' : (a : Int) = (ws.length : Int) := by omega
    simp (disch := first | assumption | rfl | exact mulOk_r (by omega) (by omega) | exact mulOk_l (by omega) (by omega) | exact divOk_s (by omega) (by omega) | omega | (simp only [List.length_cons, List.length_nil]; omega) | simp only [datT_tup, datT_lst, datT_int, datT_bl, datT_non, List.all_cons, List.all_nil, Bool.and_self, Bool.and_true]) [-bind_ite, -st_ite, -seq_ite, -out_ite, -lp_ite, -tryS_ite, -unb_ite, -toM_ite, -nox_ite, -drop_ite, cmp_eqTup, cmp_neTup, cmp_eqLst, cmp_neLst, mod_int, mul_int, div_int, shr_int, cmp_is, cmp_isnot, xisAny, List.lookup, c, ut, lw, z']
    exact kt z
  · have z' : ¬ (a : Int) = (ws.length : Int) := by omega
    simp (disch := first | assumption | rfl | exact mulOk_r (by omega) (by omega) | exact mulOk_l (by omega) (by omega) | exact divOk_s (by omega) (by omega) | omega | (simp only [List.length_cons, List.length_nil]; omega) | simp only [datT_tup, datT_lst, datT_int, datT_bl, datT_non, List.all_cons, List.all_nil, Bool.and_self, Bool.and_true]) [-bind_ite, -st_ite, -seq_ite, -out_ite, -lp_ite, -tryS_ite, -unb_ite, -toM_ite, -nox_ite, -drop_ite, cmp_eqTup, cmp_neTup, cmp_eqLst, cmp_neLst, mod_int, mul_int, div_int, shr_int, cmp_is, cmp_isnot, xisAny, List.lookup, c, uf, lw, z']
    exact kf z _ (kq_refl _ _)
end NH
namespace K81
open PySem PySem.Spec BV NH
def ASKs : List Str := ["ask", "store", "take"]
def BAREs : List Str := ["back", "fall", "bare"]
def LL : List Str := ["lease", "ask", "store", "take", "back", "fall", "bare"]
noncomputable def rowL (ws : List Str) (x y z : Str) : Option T := match (ws[3]? : Option Str) with
  | none => none
  | some h => if h = ("any" : Str) ∨ numB h = true then (match (ws[4]? : Option Str) with
    | none => none
    | some n => if numB n = true then (if ws.length = 5 then some (.tup [.str x, .int (numV y), .str z, if h = ("any" : Str) then .non else .int (numV h), .int (numV n)]) else none) else none) else none
noncomputable def rowA (ws : List Str) (x y z : Str) : Option T := match (ws[3]? : Option Str) with
  | none => none
  | some n => if numB n = true then (if ws.length = 4 then some (.tup [.str x, .int (numV y), .str z, .int (numV n)]) else none) else none
noncomputable def rowB (ws : List Str) (x y z : Str) : Option T := if x = ("lease" : Str) then rowL ws x y z else if x ∈ ASKs then rowA ws x y z else if ws.length = 3 then some (.tup [.str x, .int (numV y), .str z]) else none
/-- the row that words tell -/
noncomputable def rowV (ws : List Str) : Option T := match (ws[0]? : Option Str) with
  | none => none
  | some x => if x ∈ LL then (match (ws[1]? : Option Str) with
    | none => none
    | some y => if numB y = true then (match (ws[2]? : Option Str) with
      | none => none
      | some z => if holdB z = true then rowB ws x y z else none) else none) else none
section
variable {ws : List Str} {x y z : Str}
theorem no0 (h : ∀ x, ws[0]? = some x → x ∉ LL) : rowV ws = none := by
  unfold rowV
  cases e : ws[0]? with
  | none => rfl
  | some x =>
    dsimp only
    rw [if_neg (h x e)]
theorem no1 (h : ∀ x, ws[1]? = some x → numB x = false) : rowV ws = none := by
  unfold rowV
  cases e : ws[0]? with
  | none => rfl
  | some x =>
    dsimp only
    split
    · cases e1 : ws[1]? with
      | none => rfl
      | some y =>
        dsimp only
        rw [if_neg (by rw [h y e1]; simp)]
    · rfl
theorem row2 (hx : ws[0]? = some x) (h0 : x ∈ LL) (hy : ws[1]? = some y) (h1 : numB y = true) : rowV ws = match (ws[2]? : Option Str) with
    | none => none
    | some z => if holdB z = true then rowB ws x y z else none := by
  unfold rowV
  rw [hx]
  dsimp only
  rw [if_pos h0, hy]
  dsimp only
  rw [if_pos h1]
theorem no2 (h : ∀ x, ws[2]? = some x → holdB x = false) : rowV ws = none := by
  unfold rowV
  cases e : ws[0]? with
  | none => rfl
  | some x =>
    dsimp only
    split
    · cases e1 : ws[1]? with
      | none => rfl
      | some y =>
        dsimp only
        split
        · cases e2 : ws[2]? with
          | none => rfl
          | some z =>
            dsimp only
            rw [if_neg (by rw [h z e2]; simp)]
        · rfl
    · rfl
theorem row3 (hx : ws[0]? = some x) (h0 : x ∈ LL) (hy : ws[1]? = some y) (h1 : numB y = true) (hz : ws[2]? = some z) (h2 : holdB z = true) : rowV ws = rowB ws x y z := by
  rw [row2 hx h0 hy h1, hz]
  dsimp only
  rw [if_pos h2]
end
theorem read_row_w {t : Str} {ws : List Str} (hs : Txt.split t " " = ws) (h1 : t.length ≤ 16000000) (h2 : okS ws = true) (h3 : ws.length ≤ 1000) {m : Sto} {K : PR T} (kt : ∀ r, rowV ws = some r → ∀ m', Kp m m' → K.ok r m') (kf : rowV ws = none → ∀ m', Kp m m' → K.ex 3 [.int 0] m') : W (f_read_row [.str t] m) K := by
  have mk : mkT 23 f_Words_init_2 [.str t] m = .ok (.hd m.length) (m ++ [wdC ws 0]) := by
    have sp := fun m => sm_split (a := t) (b := " ") m ⟨rfl, h1, by rw [hs]; exact h2, by rw [hs]; omega⟩
    have ut := unless_t
    rw [hs] at sp
    refine mkT_ok ?_
    unfold wdC
    rw [e_Words_init_2, b_Words_init_2]
    generalize ws.map T.str = L at *
    simp (disch := first | assumption | rfl | exact mulOk_r (by omega) (by omega) | exact mulOk_l (by omega) (by omega) | exact divOk_s (by omega) (by omega) | omega | (simp only [List.length_cons, List.length_nil]; omega) | simp only [datT_tup, datT_lst, datT_int, datT_bl, datT_non, List.all_cons, List.all_nil, Bool.and_self, Bool.and_true]) [cmp_eqTup, cmp_neTup, cmp_eqLst, cmp_neLst, mod_int, mul_int, div_int, shr_int, cmp_is, cmp_isnot, xisAny, List.lookup, ut, sp, fset_endE]
  have g0 := get_end m (wdC ws 0)
  have q0 := kp_app m [wdC ws 0]
  have hn : ∀ (k : Nat) (c : Cell), m[k]? = some c → k ≠ m.length := fun k c h => by have := (List.getElem?_eq_some_iff.mp h).1; omega
  have pl : ∀ m, binT .Add (.tup [.str "lease"]) (.tup [.str "ask", .str "store", .str "take"]) m = .ok (.tup [.str "lease", .str "ask", .str "store", .str "take"]) m := fun m => rfl
  have pl2 : ∀ m, binT .Add (.tup [.str "lease", .str "ask", .str "store", .str "take"]) (.tup [.str "back", .str "fall", .str "bare"]) m = .ok (.tup (LL.map .str)) m := fun m => rfl
  have mt0 := methF_hd (fs := [(23, f_Words_one_of)]) g0
  rw [e_read_row, b_read_row]
  generalize m ++ [wdC ws 0] = m1 at *
  generalize m.length = n at *
  simp (disch := first | assumption | rfl | exact mulOk_r (by omega) (by omega) | exact mulOk_l (by omega) (by omega) | exact divOk_s (by omega) (by omega) | omega | (simp only [List.length_cons, List.length_nil]; omega) | simp only [datT_tup, datT_lst, datT_int, datT_bl, datT_non, List.all_cons, List.all_nil, Bool.and_self, Bool.and_true]) [-bind_ite, -st_ite, -seq_ite, -out_ite, -lp_ite, -tryS_ite, -unb_ite, -toM_ite, -nox_ite, -drop_ite, cmp_eqTup, cmp_neTup, cmp_eqLst, cmp_neLst, mod_int, mul_int, div_int, shr_int, cmp_is, cmp_isnot, xisAny, List.lookup, mk, pl, pl2, mt0]
  refine one_of_w g0 (Nat.zero_le _) (fun x hx h0 => ?_) (fun h m' qq => ?_)
  rotate_left
  · simp (disch := first | assumption | rfl | exact mulOk_r (by omega) (by omega) | exact mulOk_l (by omega) (by omega) | exact divOk_s (by omega) (by omega) | omega | (simp only [List.length_cons, List.length_nil]; omega) | simp only [datT_tup, datT_lst, datT_int, datT_bl, datT_non, List.all_cons, List.all_nil, Bool.and_self, Bool.and_true]) [-bind_ite, -st_ite, -seq_ite, -out_ite, -lp_ite, -tryS_ite, -unb_ite, -toM_ite, -nox_ite, -drop_ite, cmp_eqTup, cmp_neTup, cmp_eqLst, cmp_neLst, mod_int, mul_int, div_int, shr_int, cmp_is, cmp_isnot, xisAny, List.lookup]
    exact kf (no0 h) _ (q0.kq hn qq)
  have l0 := (List.getElem?_eq_some_iff.mp hx).1
  have g1 := gs_same (c := wdC ws 1) g0
  have q1 := q0.set hn (wdC ws 1)
  have mt1 := methF_hd (fs := [(23, f_Words_next_number)]) g1
  generalize m1.set n (wdC ws 1) = m2 at *
  simp (disch := first | assumption | rfl | exact mulOk_r (by omega) (by omega) | exact mulOk_l (by omega) (by omega) | exact divOk_s (by omega) (by omega) | omega | (simp only [List.length_cons, List.length_nil]; omega) | simp only [datT_tup, datT_lst, datT_int, datT_bl, datT_non, List.all_cons, List.all_nil, Bool.and_self, Bool.and_true]) [-bind_ite, -st_ite, -seq_ite, -out_ite, -lp_ite, -tryS_ite, -unb_ite, -toM_ite, -nox_ite, -drop_ite, cmp_eqTup, cmp_neTup, cmp_eqLst, cmp_neLst, mod_int, mul_int, div_int, shr_int, cmp_is, cmp_isnot, xisAny, List.lookup, mt1]
  refine next_number_w g1 (by omega) (fun y hy h1 => ?_) (fun h m' qq => ?_)
  rotate_left
  · simp (disch := first | assumption | rfl | exact mulOk_r (by omega) (by omega) | exact mulOk_l (by omega) (by omega) | exact divOk_s (by omega) (by omega) | omega | (simp only [List.length_cons, List.length_nil]; omega) | simp only [datT_tup, datT_lst, datT_int, datT_bl, datT_non, List.all_cons, List.all_nil, Bool.and_self, Bool.and_true]) [-bind_ite, -st_ite, -seq_ite, -out_ite, -lp_ite, -tryS_ite, -unb_ite, -toM_ite, -nox_ite, -drop_ite, cmp_eqTup, cmp_neTup, cmp_eqLst, cmp_neLst, mod_int, mul_int, div_int, shr_int, cmp_is, cmp_isnot, xisAny, List.lookup]
    exact kf (no1 h) _ (q1.kq hn qq)
  have l1 := (List.getElem?_eq_some_iff.mp hy).1
  have g2 := gs_same (c := wdC ws 2) g1
  have q2 := q1.set hn (wdC ws 2)
  have mt2 := methF_hd (fs := [(23, f_Words_next_holder)]) g2
  generalize m2.set n (wdC ws 2) = m3 at *
  simp (disch := first | assumption | rfl | exact mulOk_r (by omega) (by omega) | exact mulOk_l (by omega) (by omega) | exact divOk_s (by omega) (by omega) | omega | (simp only [List.length_cons, List.length_nil]; omega) | simp only [datT_tup, datT_lst, datT_int, datT_bl, datT_non, List.all_cons, List.all_nil, Bool.and_self, Bool.and_true]) [-bind_ite, -st_ite, -seq_ite, -out_ite, -lp_ite, -tryS_ite, -unb_ite, -toM_ite, -nox_ite, -drop_ite, cmp_eqTup, cmp_neTup, cmp_eqLst, cmp_neLst, mod_int, mul_int, div_int, shr_int, cmp_is, cmp_isnot, xisAny, List.lookup, mt2]
  refine next_holder_w g2 (by omega) (fun z hz h2 => ?_) (fun h m' qq => ?_)
  rotate_left
  · simp (disch := first | assumption | rfl | exact mulOk_r (by omega) (by omega) | exact mulOk_l (by omega) (by omega) | exact divOk_s (by omega) (by omega) | omega | (simp only [List.length_cons, List.length_nil]; omega) | simp only [datT_tup, datT_lst, datT_int, datT_bl, datT_non, List.all_cons, List.all_nil, Bool.and_self, Bool.and_true]) [-bind_ite, -st_ite, -seq_ite, -out_ite, -lp_ite, -tryS_ite, -unb_ite, -toM_ite, -nox_ite, -drop_ite, cmp_eqTup, cmp_neTup, cmp_eqLst, cmp_neLst, mod_int, mul_int, div_int, shr_int, cmp_is, cmp_isnot, xisAny, List.lookup]
    exact kf (no2 h) _ (q2.kq hn qq)
  have l2 := (List.getElem?_eq_some_iff.mp hz).1
  have g3 := gs_same (c := wdC ws 3) g2
  have q3 := q2.set hn (wdC ws 3)
  generalize m3.set n (wdC ws 3) = m4 at *
  have rv := row3 hx h0 hy h1 hz h2
  clear mk pl pl2 mt0 mt1 mt2 g0 g1 g2
  rw [rv] at kt kf
  unfold rowB at kt kf
  by_cases zl : x = "lease"
  · rw [if_pos zl] at kt kf
    unfold rowL at kt kf
    subst zl
    have na : ∀ m, cmpT .In (.str "lease") (.tup [.str "ask", .str "store", .str "take"]) m = .ok (.bl false) m := fun m => rfl
    simp (disch := first | assumption | rfl | exact mulOk_r (by omega) (by omega) | exact mulOk_l (by omega) (by omega) | exact divOk_s (by omega) (by omega) | omega | (simp only [List.length_cons, List.length_nil]; omega) | simp only [datT_tup, datT_lst, datT_int, datT_bl, datT_non, List.all_cons, List.all_nil, Bool.and_self, Bool.and_true]) [-bind_ite, -st_ite, -seq_ite, -out_ite, -lp_ite, -tryS_ite, -unb_ite, -toM_ite, -nox_ite, -drop_ite, cmp_eqTup, cmp_neTup, cmp_eqLst, cmp_neLst, mod_int, mul_int, div_int, shr_int, cmp_is, cmp_isnot, xisAny, List.lookup]
    refine house_in_w g3 (by omega) (fun h hh h3 => ?_) (fun h m' qq => ?_)
    rotate_left
    · simp (disch := first | assumption | rfl | exact mulOk_r (by omega) (by omega) | exact mulOk_l (by omega) (by omega) | exact divOk_s (by omega) (by omega) | omega | (simp only [List.length_cons, List.length_nil]; omega) | simp only [datT_tup, datT_lst, datT_int, datT_bl, datT_non, List.all_cons, List.all_nil, Bool.and_self, Bool.and_true]) [-bind_ite, -st_ite, -seq_ite, -out_ite, -lp_ite, -tryS_ite, -unb_ite, -toM_ite, -nox_ite, -drop_ite, cmp_eqTup, cmp_neTup, cmp_eqLst, cmp_neLst, mod_int, mul_int, div_int, shr_int, cmp_is, cmp_isnot, xisAny, List.lookup]
      refine kf ?_ _ (q3.kq hn qq)
      cases e : ws[3]? with
      | none => rfl
      | some v => exact if_neg (h v e)
    have l3 := (List.getElem?_eq_some_iff.mp hh).1
    rw [hh] at kt kf
    dsimp only at kt kf
    rw [if_pos h3] at kt kf
    have g4 := gs_same (c := wdC ws 4) g3
    have q4 := q3.set hn (wdC ws 4)
    have mt4 := methF_hd (fs := [(23, f_Words_next_number)]) g4
    generalize m4.set n (wdC ws 4) = m5 at *
    generalize (if h = ("any" : Str) then T.non else T.int (numV h)) = ht at *
    simp (disch := first | assumption | rfl | exact mulOk_r (by omega) (by omega) | exact mulOk_l (by omega) (by omega) | exact divOk_s (by omega) (by omega) | omega | (simp only [List.length_cons, List.length_nil]; omega) | simp only [datT_tup, datT_lst, datT_int, datT_bl, datT_non, List.all_cons, List.all_nil, Bool.and_self, Bool.and_true]) [-bind_ite, -st_ite, -seq_ite, -out_ite, -lp_ite, -tryS_ite, -unb_ite, -toM_ite, -nox_ite, -drop_ite, cmp_eqTup, cmp_neTup, cmp_eqLst, cmp_neLst, mod_int, mul_int, div_int, shr_int, cmp_is, cmp_isnot, xisAny, List.lookup, mt4]
    refine next_number_w g4 (by omega) (fun v hv h4 => ?_) (fun h m' qq => ?_)
    rotate_left
    · simp (disch := first | assumption | rfl | exact mulOk_r (by omega) (by omega) | exact mulOk_l (by omega) (by omega) | exact divOk_s (by omega) (by omega) | omega | (simp only [List.length_cons, List.length_nil]; omega) | simp only [datT_tup, datT_lst, datT_int, datT_bl, datT_non, List.all_cons, List.all_nil, Bool.and_self, Bool.and_true]) [-bind_ite, -st_ite, -seq_ite, -out_ite, -lp_ite, -tryS_ite, -unb_ite, -toM_ite, -nox_ite, -drop_ite, cmp_eqTup, cmp_neTup, cmp_eqLst, cmp_neLst, mod_int, mul_int, div_int, shr_int, cmp_is, cmp_isnot, xisAny, List.lookup]
      refine kf ?_ _ (q4.kq hn qq)
      cases e : ws[4]? with
      | none => rfl
      | some v => exact if_neg (by rw [h v e]; simp)
    rw [hv] at kt kf
    dsimp only at kt kf
    rw [if_pos h4] at kt kf
    have g5 := gs_same (c := wdC ws 5) g4
    have q5 := q4.set hn (wdC ws 5)
    have mt5 := methF_hd (fs := [(23, f_Words_close_2)]) g5
    generalize m5.set n (wdC ws 5) = m6 at *
    have ad : ∀ (a b c d e : T) m, binT .Add (.tup [a, b, c]) (.tup [d, e]) m = .ok (.tup [a, b, c, d, e]) m := fun _ _ _ _ _ _ => rfl
    simp (disch := first | assumption | rfl | exact mulOk_r (by omega) (by omega) | exact mulOk_l (by omega) (by omega) | exact divOk_s (by omega) (by omega) | omega | (simp only [List.length_cons, List.length_nil]; omega) | simp only [datT_tup, datT_lst, datT_int, datT_bl, datT_non, List.all_cons, List.all_nil, Bool.and_self, Bool.and_true]) [-bind_ite, -st_ite, -seq_ite, -out_ite, -lp_ite, -tryS_ite, -unb_ite, -toM_ite, -nox_ite, -drop_ite, cmp_eqTup, cmp_neTup, cmp_eqLst, cmp_neLst, mod_int, mul_int, div_int, shr_int, cmp_is, cmp_isnot, xisAny, List.lookup, na, ad, mt5]
    refine close_w g5 (fun e => ?_) (fun e m' qq => ?_)
    · rw [if_pos e] at kt
      simp (disch := first | assumption | rfl | exact mulOk_r (by omega) (by omega) | exact mulOk_l (by omega) (by omega) | exact divOk_s (by omega) (by omega) | omega | (simp only [List.length_cons, List.length_nil]; omega) | simp only [datT_tup, datT_lst, datT_int, datT_bl, datT_non, List.all_cons, List.all_nil, Bool.and_self, Bool.and_true]) [-bind_ite, -st_ite, -seq_ite, -out_ite, -lp_ite, -tryS_ite, -unb_ite, -toM_ite, -nox_ite, -drop_ite, cmp_eqTup, cmp_neTup, cmp_eqLst, cmp_neLst, mod_int, mul_int, div_int, shr_int, cmp_is, cmp_isnot, xisAny, List.lookup]
      exact kt _ rfl _ q5
    · rw [if_neg e] at kf
      simp (disch := first | assumption | rfl | exact mulOk_r (by omega) (by omega) | exact mulOk_l (by omega) (by omega) | exact divOk_s (by omega) (by omega) | omega | (simp only [List.length_cons, List.length_nil]; omega) | simp only [datT_tup, datT_lst, datT_int, datT_bl, datT_non, List.all_cons, List.all_nil, Bool.and_self, Bool.and_true]) [-bind_ite, -st_ite, -seq_ite, -out_ite, -lp_ite, -tryS_ite, -unb_ite, -toM_ite, -nox_ite, -drop_ite, cmp_eqTup, cmp_neTup, cmp_eqLst, cmp_neLst, mod_int, mul_int, div_int, shr_int, cmp_is, cmp_isnot, xisAny, List.lookup]
      exact kf rfl _ (q5.kq hn qq)
  · rw [if_neg zl] at kt kf
    have zl' : ¬ x = Str.ofString "lease" := zl
    have ia : ∀ m, cmpT .In (.str x) (.tup [.str "ask", .str "store", .str "take"]) m = .ok (.bl (decide (x ∈ ASKs))) m := fun m => in_txts ASKs x m
    by_cases za : x ∈ ASKs
    · rw [if_pos za] at kt kf
      unfold rowA at kt kf
      have mt3 := methF_hd (fs := [(23, f_Words_next_number)]) g3
      simp (disch := first | assumption | rfl | exact mulOk_r (by omega) (by omega) | exact mulOk_l (by omega) (by omega) | exact divOk_s (by omega) (by omega) | omega | (simp only [List.length_cons, List.length_nil]; omega) | simp only [datT_tup, datT_lst, datT_int, datT_bl, datT_non, List.all_cons, List.all_nil, Bool.and_self, Bool.and_true]) [-bind_ite, -st_ite, -seq_ite, -out_ite, -lp_ite, -tryS_ite, -unb_ite, -toM_ite, -nox_ite, -drop_ite, cmp_eqTup, cmp_neTup, cmp_eqLst, cmp_neLst, mod_int, mul_int, div_int, shr_int, cmp_is, cmp_isnot, xisAny, List.lookup, zl', ia, za, mt3]
      refine next_number_w g3 (by omega) (fun v hv h4 => ?_) (fun h m' qq => ?_)
      rotate_left
      · simp (disch := first | assumption | rfl | exact mulOk_r (by omega) (by omega) | exact mulOk_l (by omega) (by omega) | exact divOk_s (by omega) (by omega) | omega | (simp only [List.length_cons, List.length_nil]; omega) | simp only [datT_tup, datT_lst, datT_int, datT_bl, datT_non, List.all_cons, List.all_nil, Bool.and_self, Bool.and_true]) [-bind_ite, -st_ite, -seq_ite, -out_ite, -lp_ite, -tryS_ite, -unb_ite, -toM_ite, -nox_ite, -drop_ite, cmp_eqTup, cmp_neTup, cmp_eqLst, cmp_neLst, mod_int, mul_int, div_int, shr_int, cmp_is, cmp_isnot, xisAny, List.lookup]
        refine kf ?_ _ (q3.kq hn qq)
        cases e : ws[3]? with
        | none => rfl
        | some v => exact if_neg (by rw [h v e]; simp)
      rw [hv] at kt kf
      dsimp only at kt kf
      rw [if_pos h4] at kt kf
      have g4 := gs_same (c := wdC ws 4) g3
      have q4 := q3.set hn (wdC ws 4)
      have mt4 := methF_hd (fs := [(23, f_Words_close_2)]) g4
      generalize m4.set n (wdC ws 4) = m5 at *
      have ad : ∀ (a b c d : T) m, binT .Add (.tup [a, b, c]) (.tup [d]) m = .ok (.tup [a, b, c, d]) m := fun _ _ _ _ _ => rfl
      simp (disch := first | assumption | rfl | exact mulOk_r (by omega) (by omega) | exact mulOk_l (by omega) (by omega) | exact divOk_s (by omega) (by omega) | omega | (simp only [List.length_cons, List.length_nil]; omega) | simp only [datT_tup, datT_lst, datT_int, datT_bl, datT_non, List.all_cons, List.all_nil, Bool.and_self, Bool.and_true]) [-bind_ite, -st_ite, -seq_ite, -out_ite, -lp_ite, -tryS_ite, -unb_ite, -toM_ite, -nox_ite, -drop_ite, cmp_eqTup, cmp_neTup, cmp_eqLst, cmp_neLst, mod_int, mul_int, div_int, shr_int, cmp_is, cmp_isnot, xisAny, List.lookup, ad, mt4]
      refine close_w g4 (fun e => ?_) (fun e m' qq => ?_)
      · rw [if_pos e] at kt
        simp (disch := first | assumption | rfl | exact mulOk_r (by omega) (by omega) | exact mulOk_l (by omega) (by omega) | exact divOk_s (by omega) (by omega) | omega | (simp only [List.length_cons, List.length_nil]; omega) | simp only [datT_tup, datT_lst, datT_int, datT_bl, datT_non, List.all_cons, List.all_nil, Bool.and_self, Bool.and_true]) [-bind_ite, -st_ite, -seq_ite, -out_ite, -lp_ite, -tryS_ite, -unb_ite, -toM_ite, -nox_ite, -drop_ite, cmp_eqTup, cmp_neTup, cmp_eqLst, cmp_neLst, mod_int, mul_int, div_int, shr_int, cmp_is, cmp_isnot, xisAny, List.lookup]
        exact kt _ rfl _ q4
      · rw [if_neg e] at kf
        simp (disch := first | assumption | rfl | exact mulOk_r (by omega) (by omega) | exact mulOk_l (by omega) (by omega) | exact divOk_s (by omega) (by omega) | omega | (simp only [List.length_cons, List.length_nil]; omega) | simp only [datT_tup, datT_lst, datT_int, datT_bl, datT_non, List.all_cons, List.all_nil, Bool.and_self, Bool.and_true]) [-bind_ite, -st_ite, -seq_ite, -out_ite, -lp_ite, -tryS_ite, -unb_ite, -toM_ite, -nox_ite, -drop_ite, cmp_eqTup, cmp_neTup, cmp_eqLst, cmp_neLst, mod_int, mul_int, div_int, shr_int, cmp_is, cmp_isnot, xisAny, List.lookup]
        exact kf rfl _ (q4.kq hn qq)
    · rw [if_neg za] at kt kf
      have mt3 := methF_hd (fs := [(23, f_Words_close_2)]) g3
      simp (disch := first | assumption | rfl | exact mulOk_r (by omega) (by omega) | exact mulOk_l (by omega) (by omega) | exact divOk_s (by omega) (by omega) | omega | (simp only [List.length_cons, List.length_nil]; omega) | simp only [datT_tup, datT_lst, datT_int, datT_bl, datT_non, List.all_cons, List.all_nil, Bool.and_self, Bool.and_true]) [-bind_ite, -st_ite, -seq_ite, -out_ite, -lp_ite, -tryS_ite, -unb_ite, -toM_ite, -nox_ite, -drop_ite, cmp_eqTup, cmp_neTup, cmp_eqLst, cmp_neLst, mod_int, mul_int, div_int, shr_int, cmp_is, cmp_isnot, xisAny, List.lookup, zl', ia, za, mt3]
      refine close_w g3 (fun e => ?_) (fun e m' qq => ?_)
      · rw [if_pos e] at kt
        simp (disch := first | assumption | rfl | exact mulOk_r (by omega) (by omega) | exact mulOk_l (by omega) (by omega) | exact divOk_s (by omega) (by omega) | omega | (simp only [List.length_cons, List.length_nil]; omega) | simp only [datT_tup, datT_lst, datT_int, datT_bl, datT_non, List.all_cons, List.all_nil, Bool.and_self, Bool.and_true]) [-bind_ite, -st_ite, -seq_ite, -out_ite, -lp_ite, -tryS_ite, -unb_ite, -toM_ite, -nox_ite, -drop_ite, cmp_eqTup, cmp_neTup, cmp_eqLst, cmp_neLst, mod_int, mul_int, div_int, shr_int, cmp_is, cmp_isnot, xisAny, List.lookup]
        exact kt _ rfl _ q3
      · rw [if_neg e] at kf
        simp (disch := first | assumption | rfl | exact mulOk_r (by omega) (by omega) | exact mulOk_l (by omega) (by omega) | exact divOk_s (by omega) (by omega) | omega | (simp only [List.length_cons, List.length_nil]; omega) | simp only [datT_tup, datT_lst, datT_int, datT_bl, datT_non, List.all_cons, List.all_nil, Bool.and_self, Bool.and_true]) [-bind_ite, -st_ite, -seq_ite, -out_ite, -lp_ite, -tryS_ite, -unb_ite, -toM_ite, -nox_ite, -drop_ite, cmp_eqTup, cmp_neTup, cmp_eqLst, cmp_neLst, mod_int, mul_int, div_int, shr_int, cmp_is, cmp_isnot, xisAny, List.lookup]
        exact kf rfl _ (q3.kq hn qq)
/-- words fit to be joined and split -/
structure Wds (ws : List Str) : Prop where
  ne : ws ≠ []
  len : ws.length ≤ 10
  bl : ∀ w ∈ ws, 32 ∉ w.cps.toList
  sm : ∀ w ∈ ws, w.length ≤ 2000
theorem blank_tl : TL.tl " " = [32] := by decide +kernel
theorem Wds.split {ws : List Str} (h : Wds ws) : Txt.split (Txt.join " " ws) " " = ws := TL.split_join blank_tl (by decide +kernel) h.ne fun p hp => h.bl p hp
theorem Wds.ok {ws : List Str} (h : Wds ws) : okS ws = true := by
  unfold okS
  refine List.all_eq_true.mpr fun w hw => ?_
  have := h.sm w hw
  simp
  omega
theorem joinL_len : ∀ ls : List (List Nat), (TL.joinL [32] ls).length ≤ (ls.map (·.length)).sum + ls.length
  | [] => by simp [TL.joinL]
  | [p] => by simp [TL.joinL]
  | p :: q :: r => by
    have := joinL_len (q :: r)
    show (p ++ ([32] ++ TL.joinL [32] (q :: r))).length ≤ _
    simp at this ⊢
    omega
theorem join_tl (ws : List Str) : (Txt.join " " ws).cps.toList = TL.joinL [32] (ws.map fun w => w.cps.toList) := by
  have h := TL.tl_join " " ws
  rw [blank_tl] at h
  rw [TL.join_eq]
  exact h
theorem join_len (ws : List Str) : (Txt.join " " ws).length ≤ (ws.map (·.length)).sum + ws.length := by
  have h := joinL_len (ws.map fun w => w.cps.toList)
  have e : (Txt.join " " ws).length = (Txt.join " " ws).cps.toList.length := rfl
  rw [e, join_tl]
  rw [List.map_map, List.length_map] at h
  exact h
theorem sum_le {ws : List Str} (h : ∀ w ∈ ws, w.length ≤ 2000) : (ws.map (·.length)).sum ≤ 2000 * ws.length := by
  induction ws with
  | nil => simp
  | cons w ws ih =>
    have := ih fun x hx => h x (List.mem_cons_of_mem _ hx)
    have := h w List.mem_cons_self
    simp
    omega
theorem told_w {ws : List Str} (h : Wds ws) {m : Sto} {K : PR T} (k : ∀ m', Kp m m' → K.ok (.tup [(rowV ws).getD .non, .int (if (rowV ws).isSome then -1 else 0)]) m') : W (f_l_told [.str (Txt.join " " ws)] m) K := by
  have hl := join_len ws
  have hs := sum_le h.sm
  have hn := h.len
  rw [e_l_told, b_l_told]
  simp (disch := first | assumption | rfl | exact mulOk_r (by omega) (by omega) | exact mulOk_l (by omega) (by omega) | exact divOk_s (by omega) (by omega) | omega | (simp only [List.length_cons, List.length_nil]; omega) | simp only [datT_tup, datT_lst, datT_int, datT_bl, datT_non, List.all_cons, List.all_nil, Bool.and_self, Bool.and_true]) [-bind_ite, -st_ite, -seq_ite, -out_ite, -lp_ite, -tryS_ite, -unb_ite, -toM_ite, -nox_ite, -drop_ite, cmp_eqTup, cmp_neTup, cmp_eqLst, cmp_neLst, mod_int, mul_int, div_int, shr_int, cmp_is, cmp_isnot, xisAny, List.lookup]
  refine read_row_w h.split (by omega) h.ok (by omega) (fun r hr m' qq => ?_) (fun hr m' qq => ?_)
  · rw [hr] at k
    simp (disch := first | assumption | rfl | exact mulOk_r (by omega) (by omega) | exact mulOk_l (by omega) (by omega) | exact divOk_s (by omega) (by omega) | omega | (simp only [List.length_cons, List.length_nil]; omega) | simp only [datT_tup, datT_lst, datT_int, datT_bl, datT_non, List.all_cons, List.all_nil, Bool.and_self, Bool.and_true]) [-bind_ite, -st_ite, -seq_ite, -out_ite, -lp_ite, -tryS_ite, -unb_ite, -toM_ite, -nox_ite, -drop_ite, cmp_eqTup, cmp_neTup, cmp_eqLst, cmp_neLst, mod_int, mul_int, div_int, shr_int, cmp_is, cmp_isnot, xisAny, List.lookup]
    exact k _ qq
  · rw [hr] at k
    simp (disch := first | assumption | rfl | exact mulOk_r (by omega) (by omega) | exact mulOk_l (by omega) (by omega) | exact divOk_s (by omega) (by omega) | omega | (simp only [List.length_cons, List.length_nil]; omega) | simp only [datT_tup, datT_lst, datT_int, datT_bl, datT_non, List.all_cons, List.all_nil, Bool.and_self, Bool.and_true]) [-bind_ite, -st_ite, -seq_ite, -out_ite, -lp_ite, -tryS_ite, -unb_ite, -toM_ite, -nox_ite, -drop_ite, cmp_eqTup, cmp_neTup, cmp_eqLst, cmp_neLst, mod_int, mul_int, div_int, shr_int, cmp_is, cmp_isnot, xisAny, List.lookup]
    exact k _ qq
theorem told_no {t : T} (h : ∀ m, tyIs t m .str = some false) {m : Sto} {K : PR T} (k : ∀ m', Kp m m' → K.ok (.tup [.non, .int 0]) m') : W (f_l_told [t] m) K := by
  have uf := unless_f
  have mk : ∃ m', mkT 23 f_Words_init_2 [t] m = .exc 3 [.int 0] m' ∧ Kp m m' := by
    refine ⟨m ++ [.ins 23 []], mkT_exc ?_, kp_app _ _⟩
    rw [e_Words_init_2, b_Words_init_2]
    simp (disch := first | assumption | rfl | exact mulOk_r (by omega) (by omega) | exact mulOk_l (by omega) (by omega) | exact divOk_s (by omega) (by omega) | omega | (simp only [List.length_cons, List.length_nil]; omega) | simp only [datT_tup, datT_lst, datT_int, datT_bl, datT_non, List.all_cons, List.all_nil, Bool.and_self, Bool.and_true]) [cmp_eqTup, cmp_neTup, cmp_eqLst, cmp_neLst, mod_int, mul_int, div_int, shr_int, cmp_is, cmp_isnot, xisAny, List.lookup, h, uf]
  obtain ⟨m', mk, qq⟩ := mk
  rw [e_l_told, b_l_told]
  simp (disch := first | assumption | rfl | exact mulOk_r (by omega) (by omega) | exact mulOk_l (by omega) (by omega) | exact divOk_s (by omega) (by omega) | omega | (simp only [List.length_cons, List.length_nil]; omega) | simp only [datT_tup, datT_lst, datT_int, datT_bl, datT_non, List.all_cons, List.all_nil, Bool.and_self, Bool.and_true]) [-bind_ite, -st_ite, -seq_ite, -out_ite, -lp_ite, -tryS_ite, -unb_ite, -toM_ite, -nox_ite, -drop_ite, cmp_eqTup, cmp_neTup, cmp_eqLst, cmp_neLst, mod_int, mul_int, div_int, shr_int, cmp_is, cmp_isnot, xisAny, List.lookup]
  rw [e_read_row, b_read_row]
  simp (disch := first | assumption | rfl | exact mulOk_r (by omega) (by omega) | exact mulOk_l (by omega) (by omega) | exact divOk_s (by omega) (by omega) | omega | (simp only [List.length_cons, List.length_nil]; omega) | simp only [datT_tup, datT_lst, datT_int, datT_bl, datT_non, List.all_cons, List.all_nil, Bool.and_self, Bool.and_true]) [-bind_ite, -st_ite, -seq_ite, -out_ite, -lp_ite, -tryS_ite, -unb_ite, -toM_ite, -nox_ite, -drop_ite, cmp_eqTup, cmp_neTup, cmp_eqLst, cmp_neLst, mod_int, mul_int, div_int, shr_int, cmp_is, cmp_isnot, xisAny, List.lookup, mk]
  exact k _ qq
/-! rows as words -/
def pS : T → Str
  | .str a => a
  | .int v => iS v
  | _ => "any"
inductive Pt : T → Prop
  | str (a : Str) : Pt (.str a)
  | int (v : Int) (h0 : -1000000000000 < v) (h1 : v < 1000000000000) : Pt (.int v)
  | non : Pt .non
theorem iS_len {v : Int} (h0 : -1000000000000 < v) (h1 : v < 1000000000000) : (iS v).length ≤ 41 := (num_int (num_iS (by omega) (by omega)).1).2
theorem str_iS {v : Int} (h0 : -1000000000000 < v) (h1 : v < 1000000000000) (m : Sto) : biT .str [.int v] m = .ok (.str (iS v)) m := by
  refine bi_str m ⟨?_, ?_⟩
  · by_cases hz : v.natAbs = 0
    · rw [hz]
      decide
    · exact (Nat.log2_lt hz).mpr (Nat.lt_of_lt_of_le (show v.natAbs < 2000000000000 by omega) (by decide))
  · have := iS_len h0 h1
    unfold iS at this
    omega
theorem strS (a : Str) (m : Sto) : biT .str [.str a] m = .ok (.str a) m := rfl
theorem strN (m : Sto) : biT .str [.non] m = .ok (.str "None") m := rfl
theorem show_part_ok {t : T} (h : Pt t) (m : Sto) : f_show_part [t] m = .ok (.str (pS t)) m := by
  cases h with
  | str a =>
    rw [e_show_part, b_show_part]
    simp (disch := first | assumption | rfl | exact mulOk_r (by omega) (by omega) | exact mulOk_l (by omega) (by omega) | exact divOk_s (by omega) (by omega) | omega | (simp only [List.length_cons, List.length_nil]; omega) | simp only [datT_tup, datT_lst, datT_int, datT_bl, datT_non, List.all_cons, List.all_nil, Bool.and_self, Bool.and_true]) [cmp_eqTup, cmp_neTup, cmp_eqLst, cmp_neLst, mod_int, mul_int, div_int, shr_int, cmp_is, cmp_isnot, xisAny, List.lookup, strS]
    rfl
  | int v h0 h1 =>
    have := str_iS h0 h1
    rw [e_show_part, b_show_part]
    simp (disch := first | assumption | rfl | exact mulOk_r (by omega) (by omega) | exact mulOk_l (by omega) (by omega) | exact divOk_s (by omega) (by omega) | omega | (simp only [List.length_cons, List.length_nil]; omega) | simp only [datT_tup, datT_lst, datT_int, datT_bl, datT_non, List.all_cons, List.all_nil, Bool.and_self, Bool.and_true]) [cmp_eqTup, cmp_neTup, cmp_eqLst, cmp_neLst, mod_int, mul_int, div_int, shr_int, cmp_is, cmp_isnot, xisAny, List.lookup, this]
    rfl
  | non =>
    rw [e_show_part, b_show_part]
    simp (disch := first | assumption | rfl | exact mulOk_r (by omega) (by omega) | exact mulOk_l (by omega) (by omega) | exact divOk_s (by omega) (by omega) | omega | (simp only [List.length_cons, List.length_nil]; omega) | simp only [datT_tup, datT_lst, datT_int, datT_bl, datT_non, List.all_cons, List.all_nil, Bool.and_self, Bool.and_true]) [cmp_eqTup, cmp_neTup, cmp_eqLst, cmp_neLst, mod_int, mul_int, div_int, shr_int, cmp_is, cmp_isnot, xisAny, List.lookup]
    rfl
theorem words_ok {ps : List T} (h : ∀ t ∈ ps, Pt t) (m : Sto) : f_l_words [.tup ps] m = .ok (.lst ((ps.map pS).map .str)) m := by
  have c1 : ∀ m, compL (turnC (.one 1) [] (.idx (.lst [.bi .str [.var 1], .cst (.str "any")]) (.bi .int [.cmp .Is (.var 1) (.cst .non)])) [some (.tup ps), none] ⟨ps, none⟩) ps [] m = .ok (.lst ((ps.map pS).map .str)) m := fun m => by
    rw [List.map_map]
    refine compL_st (n := none) trivial (fun t => T.str (pS t)) fun t ht => ?_
    cases h t ht with
    | str a => simp (disch := first | assumption | rfl | exact mulOk_r (by omega) (by omega) | exact mulOk_l (by omega) (by omega) | exact divOk_s (by omega) (by omega) | omega | (simp only [List.length_cons, List.length_nil]; omega) | simp only [datT_tup, datT_lst, datT_int, datT_bl, datT_non, List.all_cons, List.all_nil, Bool.and_self, Bool.and_true]) [cmp_eqTup, cmp_neTup, cmp_eqLst, cmp_neLst, mod_int, mul_int, div_int, shr_int, cmp_is, cmp_isnot, xisAny, List.lookup, strS, atI_lit]; rfl
    | int v h0 h1 =>
      have := str_iS h0 h1
      simp (disch := first | assumption | rfl | exact mulOk_r (by omega) (by omega) | exact mulOk_l (by omega) (by omega) | exact divOk_s (by omega) (by omega) | omega | (simp only [List.length_cons, List.length_nil]; omega) | simp only [datT_tup, datT_lst, datT_int, datT_bl, datT_non, List.all_cons, List.all_nil, Bool.and_self, Bool.and_true]) [cmp_eqTup, cmp_neTup, cmp_eqLst, cmp_neLst, mod_int, mul_int, div_int, shr_int, cmp_is, cmp_isnot, xisAny, List.lookup, this, atI_lit]
      rfl
    | non => simp (disch := first | assumption | rfl | exact mulOk_r (by omega) (by omega) | exact mulOk_l (by omega) (by omega) | exact divOk_s (by omega) (by omega) | omega | (simp only [List.length_cons, List.length_nil]; omega) | simp only [datT_tup, datT_lst, datT_int, datT_bl, datT_non, List.all_cons, List.all_nil, Bool.and_self, Bool.and_true]) [cmp_eqTup, cmp_neTup, cmp_eqLst, cmp_neLst, mod_int, mul_int, div_int, shr_int, cmp_is, cmp_isnot, xisAny, List.lookup, strN, atI_lit]; rfl
  rw [e_l_words, b_l_words]
  simp (disch := first | assumption | rfl | exact mulOk_r (by omega) (by omega) | exact mulOk_l (by omega) (by omega) | exact divOk_s (by omega) (by omega) | omega | (simp only [List.length_cons, List.length_nil]; omega) | simp only [datT_tup, datT_lst, datT_int, datT_bl, datT_non, List.all_cons, List.all_nil, Bool.and_self, Bool.and_true]) [cmp_eqTup, cmp_neTup, cmp_eqLst, cmp_neLst, mod_int, mul_int, div_int, shr_int, cmp_is, cmp_isnot, xisAny, List.lookup, c1]
theorem show_row_ok {ps : List T} (h : ∀ t ∈ ps, Pt t) (hl : (ps.map pS).length ≤ 10) (hs : ∀ w ∈ ps.map pS, w.length ≤ 2000) (m : Sto) : f_show_row [.tup ps] m = .ok (.str (Txt.join " " (ps.map pS))) m := by
  have c1 : ∀ m, compL (turnC (.one 1) [] (.call f_show_part [.var 1]) [some (.tup ps), none] ⟨ps, none⟩) ps [] m = .ok (.lst ((ps.map pS).map .str)) m := fun m => by
    rw [List.map_map]
    refine compL_st (n := none) trivial (fun t => T.str (pS t)) fun t ht => ?_
    have := show_part_ok (h t ht)
    simp (disch := first | assumption | rfl | exact mulOk_r (by omega) (by omega) | exact mulOk_l (by omega) (by omega) | exact divOk_s (by omega) (by omega) | omega | (simp only [List.length_cons, List.length_nil]; omega) | simp only [datT_tup, datT_lst, datT_int, datT_bl, datT_non, List.all_cons, List.all_nil, Bool.and_self, Bool.and_true]) [cmp_eqTup, cmp_neTup, cmp_eqLst, cmp_neLst, mod_int, mul_int, div_int, shr_int, cmp_is, cmp_isnot, xisAny, List.lookup, this]
  have l1 := join_len (ps.map pS)
  have l2 := sum_le hs
  have l3 : (" " : Str).length = 1 := rfl
  have jo := fun m => sm_join (a := " ") (ys := ps.map pS) m ⟨by rw [l3]; omega, by omega⟩
  rw [e_show_row, b_show_row]
  generalize Txt.join " " (ps.map pS) = J at *
  generalize (ps.map pS).map T.str = L at *
  simp (disch := first | assumption | rfl | exact mulOk_r (by omega) (by omega) | exact mulOk_l (by omega) (by omega) | exact divOk_s (by omega) (by omega) | omega | (simp only [List.length_cons, List.length_nil]; omega) | simp only [datT_tup, datT_lst, datT_int, datT_bl, datT_non, List.all_cons, List.all_nil, Bool.and_self, Bool.and_true]) [cmp_eqTup, cmp_neTup, cmp_eqLst, cmp_neLst, mod_int, mul_int, div_int, shr_int, cmp_is, cmp_isnot, xisAny, List.lookup, c1, jo]
theorem atQ_w {xs : List T} {i : Int} {m : Sto} {K : PR T} (h0 : 0 ≤ i) (h1 : i < xs.length) (k : ∀ t, L2.atI xs i = some t → t ∈ xs → K.ok t m) : W (atT (L2.atI xs i) m) K := by
  obtain ⟨t, h2, h3, _⟩ := atI_some (xs := xs) h0 h1
  have := k t h2 h3
  rw [h2]
  exact ⟨this⟩
theorem hold_of {x : Str} {l : List Nat} (e : x.cps.toList = l) (h0 : 1 ≤ l.length) (h1 : l.length ≤ 8) (h : ∀ c ∈ l, letB c = true) : holdB x = true := by
  have hl : x.length = l.length := by
    rw [← e]
    rfl
  unfold holdB
  rw [hl, e, decide_eq_true h0, decide_eq_true h1]
  exact List.all_eq_true.mpr h
theorem app_tl (a b : Str) : (a ++ b).cps.toList = a.cps.toList ++ b.cps.toList := TL.tl_append a b
def hol16 : List T := [.str "any", .str "lease", .str "ask", .str "store", .str "take", .str "back", .str "fall", .str "bare", .str "runs", .str "stands", .str "world", .str "judge", .str "who", .str "tell", .str "book", .str "z"]
theorem hol16_ok {t : T} (h : t ∈ hol16) : ∃ x, t = .str x ∧ holdB x = true := by
  simp only [hol16, List.mem_cons, List.not_mem_nil, or_false] at h
  rcases h with rfl | rfl | rfl | rfl | rfl | rfl | rfl | rfl | rfl | rfl | rfl | rfl | rfl | rfl | rfl | rfl <;> exact ⟨_, rfl, by decide +kernel⟩
theorem holder_w {m : Sto} {h : Nat} {s : St3} {K : PR T} (g : m[h]? = some (cel s)) (k : ∀ x s', holdB x = true → K.ok (.str x) (m.set h (cel s'))) : W (f_l_holder [.hd h] m) K := by
  rw [e_l_holder, b_l_holder]
  simp (disch := first | assumption | rfl | exact mulOk_r (by omega) (by omega) | exact mulOk_l (by omega) (by omega) | exact divOk_s (by omega) (by omega) | omega | (simp only [List.length_cons, List.length_nil]; omega) | simp only [datT_tup, datT_lst, datT_int, datT_bl, datT_non, List.all_cons, List.all_nil, Bool.and_self, Bool.and_true]) [-bind_ite, -st_ite, -seq_ite, -out_ite, -lp_ite, -tryS_ite, -unb_ite, -toM_ite, -nox_ite, -drop_ite, cmp_eqTup, cmp_neTup, cmp_eqLst, cmp_neLst, mod_int, mul_int, div_int, shr_int, cmp_is, cmp_isnot, xisAny, List.lookup]
  refine next2_w g (by omega) (by omega) ?_
  intro v s1 v0 v1
  have g1 := gs_same (c := cel s1) g
  by_cases w0 : v = 0
  · simp (disch := first | assumption | rfl | exact mulOk_r (by omega) (by omega) | exact mulOk_l (by omega) (by omega) | exact divOk_s (by omega) (by omega) | omega | (simp only [List.length_cons, List.length_nil]; omega) | simp only [datT_tup, datT_lst, datT_int, datT_bl, datT_non, List.all_cons, List.all_nil, Bool.and_self, Bool.and_true]) [-bind_ite, -st_ite, -seq_ite, -out_ite, -lp_ite, -tryS_ite, -unb_ite, -toM_ite, -nox_ite, -drop_ite, cmp_eqTup, cmp_neTup, cmp_eqLst, cmp_neLst, mod_int, mul_int, div_int, shr_int, cmp_is, cmp_isnot, xisAny, List.lookup, w0, add_lst]
    refine next2_w g1 (by omega) (by omega) ?_
    intro w s2 _ _
    rw [List.set_set]
    simp (disch := first | assumption | rfl | exact mulOk_r (by omega) (by omega) | exact mulOk_l (by omega) (by omega) | exact divOk_s (by omega) (by omega) | omega | (simp only [List.length_cons, List.length_nil]; omega) | simp only [datT_tup, datT_lst, datT_int, datT_bl, datT_non, List.all_cons, List.all_nil, Bool.and_self, Bool.and_true]) [-bind_ite, -st_ite, -seq_ite, -out_ite, -lp_ite, -tryS_ite, -unb_ite, -toM_ite, -nox_ite, -drop_ite, cmp_eqTup, cmp_neTup, cmp_eqLst, cmp_neLst, mod_int, mul_int, div_int, shr_int, cmp_is, cmp_isnot, xisAny, List.lookup]
    refine atQ_w (by assumption) (by simp; omega) ?_
    intro t _ ht
    obtain ⟨x, rfl, hx⟩ := hol16_ok (t := t) ht
    simp (disch := first | assumption | rfl | exact mulOk_r (by omega) (by omega) | exact mulOk_l (by omega) (by omega) | exact divOk_s (by omega) (by omega) | omega | (simp only [List.length_cons, List.length_nil]; omega) | simp only [datT_tup, datT_lst, datT_int, datT_bl, datT_non, List.all_cons, List.all_nil, Bool.and_self, Bool.and_true]) [-bind_ite, -st_ite, -seq_ite, -out_ite, -lp_ite, -tryS_ite, -unb_ite, -toM_ite, -nox_ite, -drop_ite, cmp_eqTup, cmp_neTup, cmp_eqLst, cmp_neLst, mod_int, mul_int, div_int, shr_int, cmp_is, cmp_isnot, xisAny, List.lookup]
    exact k x _ hx
  · by_cases w1 : v = 1
    · simp (disch := first | assumption | rfl | exact mulOk_r (by omega) (by omega) | exact mulOk_l (by omega) (by omega) | exact divOk_s (by omega) (by omega) | omega | (simp only [List.length_cons, List.length_nil]; omega) | simp only [datT_tup, datT_lst, datT_int, datT_bl, datT_non, List.all_cons, List.all_nil, Bool.and_self, Bool.and_true]) [-bind_ite, -st_ite, -seq_ite, -out_ite, -lp_ite, -tryS_ite, -unb_ite, -toM_ite, -nox_ite, -drop_ite, cmp_eqTup, cmp_neTup, cmp_eqLst, cmp_neLst, mod_int, mul_int, div_int, shr_int, cmp_is, cmp_isnot, xisAny, List.lookup, w0, w1]
      refine next2_w g1 (by omega) (by omega) ?_
      intro n s2 n0 n1
      rw [List.set_set]
      obtain ⟨n, rfl⟩ := Int.eq_ofNat_of_zero_le n0
      have g2 := gs_same (c := cel s2) g
      have ct : cutT ("bcdefghi" : Str).cps.toList none (some (1 + (n : Int))) = [98, 99, 100, 101, 102, 103, 104, 105].take (n + 1) := by
        rw [show 1 + (n : Int) = ((n + 1 : Nat) : Int) by omega, cutT_take]
        rfl
      have lW : ([98, 99, 100, 101, 102, 103, 104, 105].take (n + 1) : List Nat).length = n + 1 := by simp; omega
      have hW : ∀ c ∈ ([98, 99, 100, 101, 102, 103, 104, 105].take (n + 1) : List Nat), letB c = true := fun c hc => by
        have : ∀ c ∈ ([98, 99, 100, 101, 102, 103, 104, 105] : List Nat), letB c = true := by decide +kernel
        exact this c (List.mem_of_mem_take hc)
      have sl : ∀ m, slcT (.str (Str.ofString "bcdefghi")) none (some (1 + (n : Int))) m = .ok (.str ⟨([98, 99, 100, 101, 102, 103, 104, 105].take (n + 1)).toArray⟩) m := fun m => by
        show Rs.ok (T.str ⟨(cutT ("bcdefghi" : Str).cps.toList none (some (1 + (n : Int)))).toArray⟩) m = _
        rw [ct]
      generalize ([98, 99, 100, 101, 102, 103, 104, 105].take (n + 1) : List Nat) = W8 at *
      have lS : (⟨W8.toArray⟩ : Str).length = n + 1 := lW
      simp (disch := first | assumption | rfl | exact mulOk_r (by omega) (by omega) | exact mulOk_l (by omega) (by omega) | exact divOk_s (by omega) (by omega) | omega | (simp only [List.length_cons, List.length_nil]; omega) | simp only [datT_tup, datT_lst, datT_int, datT_bl, datT_non, List.all_cons, List.all_nil, Bool.and_self, Bool.and_true]) [-bind_ite, -st_ite, -seq_ite, -out_ite, -lp_ite, -tryS_ite, -unb_ite, -toM_ite, -nox_ite, -drop_ite, cmp_eqTup, cmp_neTup, cmp_eqLst, cmp_neLst, mod_int, mul_int, div_int, shr_int, cmp_is, cmp_isnot, xisAny, List.lookup, -slc_str, sl, lS]
      refine next2_w g2 (by omega) (by omega) ?_
      intro a s3 a0 a1
      rw [List.set_set]
      obtain ⟨a, rfl⟩ := Int.eq_ofNat_of_zero_le a0
      have g3 := gs_same (c := cel s3) g
      have c1 := cutT_take W8 a
      have c2 := cutT_drop W8 (a + 1)
      rw [show ((a + 1 : Nat) : Int) = (a : Int) + 1 by omega] at c2
      simp (disch := first | assumption | rfl | exact mulOk_r (by omega) (by omega) | exact mulOk_l (by omega) (by omega) | exact divOk_s (by omega) (by omega) | omega | (simp only [List.length_cons, List.length_nil]; omega) | simp only [datT_tup, datT_lst, datT_int, datT_bl, datT_non, List.all_cons, List.all_nil, Bool.and_self, Bool.and_true]) [-bind_ite, -st_ite, -seq_ite, -out_ite, -lp_ite, -tryS_ite, -unb_ite, -toM_ite, -nox_ite, -drop_ite, cmp_eqTup, cmp_neTup, cmp_eqLst, cmp_neLst, mod_int, mul_int, div_int, shr_int, cmp_is, cmp_isnot, xisAny, List.lookup, c1, c2]
      refine next2_w g3 (by omega) (by omega) ?_
      intro j s4 j0 j1
      rw [List.set_set]
      simp (disch := first | assumption | rfl | exact mulOk_r (by omega) (by omega) | exact mulOk_l (by omega) (by omega) | exact divOk_s (by omega) (by omega) | omega | (simp only [List.length_cons, List.length_nil]; omega) | simp only [datT_tup, datT_lst, datT_int, datT_bl, datT_non, List.all_cons, List.all_nil, Bool.and_self, Bool.and_true]) [-bind_ite, -st_ite, -seq_ite, -out_ite, -lp_ite, -tryS_ite, -unb_ite, -toM_ite, -nox_ite, -drop_ite, cmp_eqTup, cmp_neTup, cmp_eqLst, cmp_neLst, mod_int, mul_int, div_int, shr_int, cmp_is, cmp_isnot, xisAny, List.lookup]
      refine idxS_w j0 (by show j < 3; exact j1) ?_
      intro c hc
      have lc : letB c = true := by
        have : ∀ c ∈ ("axz" : Str).cps.toList, letB c = true := by decide +kernel
        exact this c hc
      have ad1 : ∀ m, binT .Add (.str ⟨(W8.take a).toArray⟩) (.str ⟨#[c]⟩) m = .ok (.str (⟨(W8.take a).toArray⟩ ++ ⟨#[c]⟩)) m := fun m => add_str m (by
        have e1 : (⟨(W8.take a).toArray⟩ : Str).length = (W8.take a).length := rfl
        rw [e1, List.length_take]
        show _ + 1 ≤ _
        omega)
      have ad2 : ∀ m, binT .Add (.str (⟨(W8.take a).toArray⟩ ++ ⟨#[c]⟩)) (.str ⟨(W8.drop (a + 1)).toArray⟩) m = .ok (.str (⟨(W8.take a).toArray⟩ ++ ⟨#[c]⟩ ++ ⟨(W8.drop (a + 1)).toArray⟩)) m := fun m => add_str m (by
        rw [str_app_len]
        have e1 : (⟨(W8.take a).toArray⟩ : Str).length = (W8.take a).length := rfl
        have e2 : (⟨(W8.drop (a + 1)).toArray⟩ : Str).length = (W8.drop (a + 1)).length := rfl
        rw [e1, e2, List.length_take, List.length_drop]
        show _ + 1 + _ ≤ _
        omega)
      have kk := k (⟨(W8.take a).toArray⟩ ++ ⟨#[c]⟩ ++ ⟨(W8.drop (a + 1)).toArray⟩) s4 (hold_of (l := W8.take a ++ [c] ++ W8.drop (a + 1)) (by rw [app_tl, app_tl]) (by simp; omega) (by simp; omega) fun d hd => by
        rcases List.mem_append.mp hd with hd | hd
        · rcases List.mem_append.mp hd with hd | hd
          · exact hW d (List.mem_of_mem_take hd)
          · obtain rfl := List.mem_singleton.mp hd
            exact lc
        · exact hW d (List.mem_of_mem_drop hd))
      simp (disch := first | assumption | rfl | exact mulOk_r (by omega) (by omega) | exact mulOk_l (by omega) (by omega) | exact divOk_s (by omega) (by omega) | omega | (simp only [List.length_cons, List.length_nil]; omega) | simp only [datT_tup, datT_lst, datT_int, datT_bl, datT_non, List.all_cons, List.all_nil, Bool.and_self, Bool.and_true]) [-bind_ite, -st_ite, -seq_ite, -out_ite, -lp_ite, -tryS_ite, -unb_ite, -toM_ite, -nox_ite, -drop_ite, cmp_eqTup, cmp_neTup, cmp_eqLst, cmp_neLst, mod_int, mul_int, div_int, shr_int, cmp_is, cmp_isnot, xisAny, List.lookup, ad1, c1, c2, ad2]
      exact kk
    · simp (disch := first | assumption | rfl | exact mulOk_r (by omega) (by omega) | exact mulOk_l (by omega) (by omega) | exact divOk_s (by omega) (by omega) | omega | (simp only [List.length_cons, List.length_nil]; omega) | simp only [datT_tup, datT_lst, datT_int, datT_bl, datT_non, List.all_cons, List.all_nil, Bool.and_self, Bool.and_true]) [-bind_ite, -st_ite, -seq_ite, -out_ite, -lp_ite, -tryS_ite, -unb_ite, -toM_ite, -nox_ite, -drop_ite, cmp_eqTup, cmp_neTup, cmp_eqLst, cmp_neLst, mod_int, mul_int, div_int, shr_int, cmp_is, cmp_isnot, xisAny, List.lookup, w0, w1]
      refine next2_w g1 (by omega) (by omega) ?_
      intro n s2 n0 n1
      rw [List.set_set]
      obtain ⟨n, rfl⟩ := Int.eq_ofNat_of_zero_le n0
      simp (disch := first | assumption | rfl | exact mulOk_r (by omega) (by omega) | exact mulOk_l (by omega) (by omega) | exact divOk_s (by omega) (by omega) | omega | (simp only [List.length_cons, List.length_nil]; omega) | simp only [datT_tup, datT_lst, datT_int, datT_bl, datT_non, List.all_cons, List.all_nil, Bool.and_self, Bool.and_true]) [-bind_ite, -st_ite, -seq_ite, -out_ite, -lp_ite, -tryS_ite, -unb_ite, -toM_ite, -nox_ite, -drop_ite, cmp_eqTup, cmp_neTup, cmp_eqLst, cmp_neLst, mod_int, mul_int, div_int, shr_int, cmp_is, cmp_isnot, xisAny, List.lookup]
      refine rng1_w (by omega) (by omega) ?_
      simp (disch := first | assumption | rfl | exact mulOk_r (by omega) (by omega) | exact mulOk_l (by omega) (by omega) | exact divOk_s (by omega) (by omega) | omega | (simp only [List.length_cons, List.length_nil]; omega) | simp only [datT_tup, datT_lst, datT_int, datT_bl, datT_non, List.all_cons, List.all_nil, Bool.and_self, Bool.and_true]) [-bind_ite, -st_ite, -seq_ite, -out_ite, -lp_ite, -tryS_ite, -unb_ite, -toM_ite, -nox_ite, -drop_ite, cmp_eqTup, cmp_neTup, cmp_eqLst, cmp_neLst, mod_int, mul_int, div_int, shr_int, cmp_is, cmp_isnot, xisAny, List.lookup]
      refine W_comp (fun i acc m' => ∃ (cs : List Nat) (s' : St3), m' = m.set h (cel s') ∧ acc = cs.map (fun c => T.str ⟨#[c]⟩) ∧ cs.length = i ∧ ∀ c ∈ cs, letB c = true) ⟨[], s2, rfl, rfl, rfl, by simp⟩ ?_ ?_
      · rintro i x acc m' hx ⟨cs, s', rfl, rfl, hl, hc⟩
        have g' := gs_same (c := cel s') g
        simp (disch := first | assumption | rfl | exact mulOk_r (by omega) (by omega) | exact mulOk_l (by omega) (by omega) | exact divOk_s (by omega) (by omega) | omega | (simp only [List.length_cons, List.length_nil]; omega) | simp only [datT_tup, datT_lst, datT_int, datT_bl, datT_non, List.all_cons, List.all_nil, Bool.and_self, Bool.and_true]) [-bind_ite, -st_ite, -seq_ite, -out_ite, -lp_ite, -tryS_ite, -unb_ite, -toM_ite, -nox_ite, -drop_ite, cmp_eqTup, cmp_neTup, cmp_eqLst, cmp_neLst, mod_int, mul_int, div_int, shr_int, cmp_is, cmp_isnot, xisAny, List.lookup, turnC_opt]
        refine next2_w g' (by omega) (by omega) ?_
        intro j s'' j0 j1
        rw [List.set_set]
        simp (disch := first | assumption | rfl | exact mulOk_r (by omega) (by omega) | exact mulOk_l (by omega) (by omega) | exact divOk_s (by omega) (by omega) | omega | (simp only [List.length_cons, List.length_nil]; omega) | simp only [datT_tup, datT_lst, datT_int, datT_bl, datT_non, List.all_cons, List.all_nil, Bool.and_self, Bool.and_true]) [-bind_ite, -st_ite, -seq_ite, -out_ite, -lp_ite, -tryS_ite, -unb_ite, -toM_ite, -nox_ite, -drop_ite, cmp_eqTup, cmp_neTup, cmp_eqLst, cmp_neLst, mod_int, mul_int, div_int, shr_int, cmp_is, cmp_isnot, xisAny, List.lookup]
        refine idxS_w j0 (by show j < 26; exact j1) ?_
        intro c hcc
        have lc : letB c = true := decide_eq_true hcc
        simp (disch := first | assumption | rfl | exact mulOk_r (by omega) (by omega) | exact mulOk_l (by omega) (by omega) | exact divOk_s (by omega) (by omega) | omega | (simp only [List.length_cons, List.length_nil]; omega) | simp only [datT_tup, datT_lst, datT_int, datT_bl, datT_non, List.all_cons, List.all_nil, Bool.and_self, Bool.and_true]) [-bind_ite, -st_ite, -seq_ite, -out_ite, -lp_ite, -tryS_ite, -unb_ite, -toM_ite, -nox_ite, -drop_ite, cmp_eqTup, cmp_neTup, cmp_eqLst, cmp_neLst, mod_int, mul_int, div_int, shr_int, cmp_is, cmp_isnot, xisAny, List.lookup]
        refine ⟨⟨_, _, _, rfl⟩, cs ++ [c], by simp, by simp [hl], fun d hd => ?_⟩
        rcases List.mem_append.mp hd with hd | hd
        · exact hc d hd
        · obtain rfl := List.mem_singleton.mp hd
          exact lc
      · rintro acc m' ⟨cs, s', rfl, rfl, hl, hc⟩
        have rl : (rngL 0 (1 + (n : Int))).length = n + 1 := by
          unfold rngL
          rw [List.length_map, List.length_range]
          omega
        rw [rl] at hl
        have em : cs.map (fun c => T.str ⟨#[c]⟩) = (cs.map fun c => (⟨#[c]⟩ : Str)).map .str := by rw [List.map_map]; rfl
        have jn : (Txt.join "" (cs.map fun c => (⟨#[c]⟩ : Str))).cps.toList = cs := by
          have h := TL.tl_join "" (cs.map fun c => (⟨#[c]⟩ : Str))
          rw [TL.join_eq]
          refine Eq.trans h ?_
          rw [List.map_map]
          have e0 : TL.tl "" = [] := by decide +kernel
          rw [e0]
          clear h em hl hc
          induction cs with
          | nil => rfl
          | cons a r ih =>
            cases r with
            | nil => rfl
            | cons b r => exact congrArg (a :: ·) ih
        have jl : (Txt.join "" (cs.map fun c => (⟨#[c]⟩ : Str))).length = n + 1 := by
          show (Txt.join "" (cs.map fun c => (⟨#[c]⟩ : Str))).cps.toList.length = _
          rw [jn, hl]
        have sm1 : ((cs.map fun c => (⟨#[c]⟩ : Str)).map (·.length)).sum = n + 1 := by
          rw [List.map_map]
          have : (cs.map ((fun x : Str => x.length) ∘ fun c => (⟨#[c]⟩ : Str))) = List.replicate cs.length 1 := by
            rw [List.eq_replicate_iff]
            refine ⟨by simp, fun b hb => ?_⟩
            obtain ⟨c, _, rfl⟩ := List.mem_map.mp hb
            rfl
          rw [this, hl]
          simp
        have jo := fun m => sm_join (a := "") (ys := cs.map fun c => (⟨#[c]⟩ : Str)) m ⟨by
          rw [sm1, List.length_map, hl]
          have : ("" : Str).length = 0 := by decide +kernel
          rw [this]
          omega, by rw [jl]; omega⟩
        have kk := k _ s' (hold_of jn (by omega) (by omega) hc)
        rw [em]
        generalize (cs.map fun c => (⟨#[c]⟩ : Str)).map T.str = L at *
        generalize Txt.join "" (cs.map fun c => (⟨#[c]⟩ : Str)) = J at *
        simp (disch := first | assumption | rfl | exact mulOk_r (by omega) (by omega) | exact mulOk_l (by omega) (by omega) | exact divOk_s (by omega) (by omega) | omega | (simp only [List.length_cons, List.length_nil]; omega) | simp only [datT_tup, datT_lst, datT_int, datT_bl, datT_non, List.all_cons, List.all_nil, Bool.and_self, Bool.and_true]) [-bind_ite, -st_ite, -seq_ite, -out_ite, -lp_ite, -tryS_ite, -unb_ite, -toM_ite, -nox_ite, -drop_ite, cmp_eqTup, cmp_neTup, cmp_eqLst, cmp_neLst, mod_int, mul_int, div_int, shr_int, cmp_is, cmp_isnot, xisAny, List.lookup, jo]
        exact kk
def bd (v : Int) : Prop := -1000000000000 < v ∧ v < 1000000000000
inductive IsRow : List T → Prop
  | lease {v b : Int} {h : Str} {ho : T} (v0 : bd v) (b0 : bd b) (hh : holdB h = true) (o : ho = .non ∨ ∃ i, ho = .int i ∧ bd i) : IsRow [.str "lease", .int v, .str h, ho, .int b]
  | ask {w : Str} {v b : Int} {h : Str} (hw : w ∈ ASKs) (v0 : bd v) (b0 : bd b) (hh : holdB h = true) : IsRow [.str w, .int v, .str h, .int b]
  | bare {w : Str} {v : Int} {h : Str} (hw : w ∈ BAREs) (v0 : bd v) (hh : holdB h = true) : IsRow [.str w, .int v, .str h]
theorem bd_num {v : Int} (h : bd v) : numB (iS v) = true ∧ numV (iS v) = v := num_iS (by have := h.1; omega) (by have := h.2; omega)
theorem any_no : numB "any" = false := by decide +kernel
theorem iS_any {v : Int} (h : bd v) : ¬ iS v = "any" := fun e => by
  have := (bd_num h).1
  rw [e, any_no] at this
  cases this
theorem IsRow.back {ps : List T} (r : IsRow ps) : rowV (ps.map pS) = some (.tup ps) := by
  cases r with
  | @lease v b h ho v0 b0 hh o =>
    rw [row3 (ws := [T.str "lease", .int v, .str h, ho, .int b].map pS) (x := "lease") (y := iS v) (z := h) rfl (by decide +kernel) rfl (bd_num v0).1 rfl hh]
    unfold rowB
    rw [if_pos rfl]
    unfold rowL
    rcases o with rfl | ⟨i, rfl, i0⟩
    · show (if ("any" : Str) = "any" ∨ numB "any" = true then _ else none) = _
      rw [if_pos (.inl rfl)]
      show (if numB (iS b) = true then _ else none) = _
      rw [if_pos (bd_num b0).1]
      show (if (5 : Nat) = 5 then some (T.tup [.str "lease", .int (numV (iS v)), .str h, .non, .int (numV (iS b))]) else none) = _
      rw [if_pos rfl, (bd_num v0).2, (bd_num b0).2]
    · show (if iS i = "any" ∨ numB (iS i) = true then _ else none) = _
      rw [if_pos (.inr (bd_num i0).1)]
      show (if numB (iS b) = true then _ else none) = _
      rw [if_pos (bd_num b0).1]
      show (if (5 : Nat) = 5 then some (T.tup [.str "lease", .int (numV (iS v)), .str h, if iS i = "any" then .non else .int (numV (iS i)), .int (numV (iS b))]) else none) = _
      rw [if_pos rfl, (bd_num v0).2, (bd_num b0).2, (bd_num i0).2, if_neg (iS_any i0)]
  | @ask w v b h hw v0 b0 hh =>
    have h1 : w ∈ LL ∧ ¬ w = "lease" := by
      unfold ASKs at hw
      simp only [List.mem_cons, List.not_mem_nil, or_false] at hw
      rcases hw with rfl | rfl | rfl <;> exact ⟨by decide +kernel, by decide +kernel⟩
    rw [row3 (ws := [T.str w, .int v, .str h, .int b].map pS) (x := w) (y := iS v) (z := h) rfl h1.1 rfl (bd_num v0).1 rfl hh]
    unfold rowB
    rw [if_neg h1.2, if_pos hw]
    unfold rowA
    show (if numB (iS b) = true then _ else none) = _
    rw [if_pos (bd_num b0).1]
    show (if (4 : Nat) = 4 then some (T.tup [.str w, .int (numV (iS v)), .str h, .int (numV (iS b))]) else none) = _
    rw [if_pos rfl, (bd_num v0).2, (bd_num b0).2]
  | @bare w v h hw v0 hh =>
    have h1 : w ∈ LL ∧ ¬ w = "lease" ∧ w ∉ ASKs := by
      unfold BAREs at hw
      simp only [List.mem_cons, List.not_mem_nil, or_false] at hw
      rcases hw with rfl | rfl | rfl <;> exact ⟨by decide +kernel, by decide +kernel, by decide +kernel⟩
    rw [row3 (ws := [T.str w, .int v, .str h].map pS) (x := w) (y := iS v) (z := h) rfl h1.1 rfl (bd_num v0).1 rfl hh]
    unfold rowB
    rw [if_neg h1.2.1, if_neg h1.2.2]
    show (if (3 : Nat) = 3 then some (T.tup [.str w, .int (numV (iS v)), .str h]) else none) = _
    rw [if_pos rfl, (bd_num v0).2]
theorem row_w {m : Sto} {h : Nat} {s : St3} {K : PR T} (g : m[h]? = some (cel s)) (k : ∀ ps s', IsRow ps → K.ok (.tup ps) (m.set h (cel s'))) : W (f_l_row [.hd h] m) K := by
  have g' := fun (s' : St3) => gs_same (c := cel s') g
  rw [e_l_row, b_l_row]
  simp (disch := first | assumption | rfl | exact mulOk_r (by omega) (by omega) | exact mulOk_l (by omega) (by omega) | exact divOk_s (by omega) (by omega) | omega | (simp only [List.length_cons, List.length_nil]; omega) | simp only [datT_tup, datT_lst, datT_int, datT_bl, datT_non, List.all_cons, List.all_nil, Bool.and_self, Bool.and_true]) [-bind_ite, -st_ite, -seq_ite, -out_ite, -lp_ite, -tryS_ite, -unb_ite, -toM_ite, -nox_ite, -drop_ite, cmp_eqTup, cmp_neTup, cmp_eqLst, cmp_neLst, mod_int, mul_int, div_int, shr_int, cmp_is, cmp_isnot, xisAny, List.lookup]
  refine next2_w g (by omega) (by omega) ?_
  intro v s1 v0 v1
  simp (disch := first | assumption | rfl | exact mulOk_r (by omega) (by omega) | exact mulOk_l (by omega) (by omega) | exact divOk_s (by omega) (by omega) | omega | (simp only [List.length_cons, List.length_nil]; omega) | simp only [datT_tup, datT_lst, datT_int, datT_bl, datT_non, List.all_cons, List.all_nil, Bool.and_self, Bool.and_true]) [-bind_ite, -st_ite, -seq_ite, -out_ite, -lp_ite, -tryS_ite, -unb_ite, -toM_ite, -nox_ite, -drop_ite, cmp_eqTup, cmp_neTup, cmp_eqLst, cmp_neLst, mod_int, mul_int, div_int, shr_int, cmp_is, cmp_isnot, xisAny, List.lookup]
  refine atQ_w v0 (by simp; omega) ?_
  intro t _ ht
  have hw : ∃ w, t = .str w ∧ (w = "lease" ∨ w ∈ ASKs ∨ w ∈ BAREs) := by
    simp only [List.mem_cons, List.not_mem_nil, or_false] at ht
    rcases ht with rfl | rfl | rfl | rfl | rfl | rfl | rfl | rfl <;> refine ⟨_, rfl, ?_⟩ <;> decide +kernel
  obtain ⟨w, rfl, hw⟩ := hw
  simp (disch := first | assumption | rfl | exact mulOk_r (by omega) (by omega) | exact mulOk_l (by omega) (by omega) | exact divOk_s (by omega) (by omega) | omega | (simp only [List.length_cons, List.length_nil]; omega) | simp only [datT_tup, datT_lst, datT_int, datT_bl, datT_non, List.all_cons, List.all_nil, Bool.and_self, Bool.and_true]) [-bind_ite, -st_ite, -seq_ite, -out_ite, -lp_ite, -tryS_ite, -unb_ite, -toM_ite, -nox_ite, -drop_ite, cmp_eqTup, cmp_neTup, cmp_eqLst, cmp_neLst, mod_int, mul_int, div_int, shr_int, cmp_is, cmp_isnot, xisAny, List.lookup]
  refine number_w (g' _) ?_
  intro a s2 a0 a1
  rw [List.set_set]
  simp (disch := first | assumption | rfl | exact mulOk_r (by omega) (by omega) | exact mulOk_l (by omega) (by omega) | exact divOk_s (by omega) (by omega) | omega | (simp only [List.length_cons, List.length_nil]; omega) | simp only [datT_tup, datT_lst, datT_int, datT_bl, datT_non, List.all_cons, List.all_nil, Bool.and_self, Bool.and_true]) [-bind_ite, -st_ite, -seq_ite, -out_ite, -lp_ite, -tryS_ite, -unb_ite, -toM_ite, -nox_ite, -drop_ite, cmp_eqTup, cmp_neTup, cmp_eqLst, cmp_neLst, mod_int, mul_int, div_int, shr_int, cmp_is, cmp_isnot, xisAny, List.lookup]
  refine holder_w (g' _) ?_
  intro x s3 hx
  rw [List.set_set]
  have ia : ∀ m, cmpT .In (.str w) (.tup [.str "ask", .str "store", .str "take"]) m = .ok (.bl (decide (w ∈ ASKs))) m := fun m => in_txts ASKs w m
  have ad2 : ∀ (a b c d e : T) m, binT .Add (.tup [a, b, c]) (.tup [d, e]) m = .ok (.tup [a, b, c, d, e]) m := fun _ _ _ _ _ _ => rfl
  have ad1 : ∀ (a b c d : T) m, binT .Add (.tup [a, b, c]) (.tup [d]) m = .ok (.tup [a, b, c, d]) m := fun _ _ _ _ _ => rfl
  by_cases zl : w = "lease"
  · subst zl
    simp (disch := first | assumption | rfl | exact mulOk_r (by omega) (by omega) | exact mulOk_l (by omega) (by omega) | exact divOk_s (by omega) (by omega) | omega | (simp only [List.length_cons, List.length_nil]; omega) | simp only [datT_tup, datT_lst, datT_int, datT_bl, datT_non, List.all_cons, List.all_nil, Bool.and_self, Bool.and_true]) [-bind_ite, -st_ite, -seq_ite, -out_ite, -lp_ite, -tryS_ite, -unb_ite, -toM_ite, -nox_ite, -drop_ite, cmp_eqTup, cmp_neTup, cmp_eqLst, cmp_neLst, mod_int, mul_int, div_int, shr_int, cmp_is, cmp_isnot, xisAny, List.lookup]
    refine number_w (g' _) ?_
    intro b s4 b0 b1
    rw [List.set_set]
    simp (disch := first | assumption | rfl | exact mulOk_r (by omega) (by omega) | exact mulOk_l (by omega) (by omega) | exact divOk_s (by omega) (by omega) | omega | (simp only [List.length_cons, List.length_nil]; omega) | simp only [datT_tup, datT_lst, datT_int, datT_bl, datT_non, List.all_cons, List.all_nil, Bool.and_self, Bool.and_true]) [-bind_ite, -st_ite, -seq_ite, -out_ite, -lp_ite, -tryS_ite, -unb_ite, -toM_ite, -nox_ite, -drop_ite, cmp_eqTup, cmp_neTup, cmp_eqLst, cmp_neLst, mod_int, mul_int, div_int, shr_int, cmp_is, cmp_isnot, xisAny, List.lookup]
    refine next2_w (g' _) (by omega) (by omega) ?_
    intro j s5 j0 j1
    rw [List.set_set]
    simp (disch := first | assumption | rfl | exact mulOk_r (by omega) (by omega) | exact mulOk_l (by omega) (by omega) | exact divOk_s (by omega) (by omega) | omega | (simp only [List.length_cons, List.length_nil]; omega) | simp only [datT_tup, datT_lst, datT_int, datT_bl, datT_non, List.all_cons, List.all_nil, Bool.and_self, Bool.and_true]) [-bind_ite, -st_ite, -seq_ite, -out_ite, -lp_ite, -tryS_ite, -unb_ite, -toM_ite, -nox_ite, -drop_ite, cmp_eqTup, cmp_neTup, cmp_eqLst, cmp_neLst, mod_int, mul_int, div_int, shr_int, cmp_is, cmp_isnot, xisAny, List.lookup]
    refine atQ_w j0 (by simp; omega) ?_
    intro ho _ hho
    simp (disch := first | assumption | rfl | exact mulOk_r (by omega) (by omega) | exact mulOk_l (by omega) (by omega) | exact divOk_s (by omega) (by omega) | omega | (simp only [List.length_cons, List.length_nil]; omega) | simp only [datT_tup, datT_lst, datT_int, datT_bl, datT_non, List.all_cons, List.all_nil, Bool.and_self, Bool.and_true]) [-bind_ite, -st_ite, -seq_ite, -out_ite, -lp_ite, -tryS_ite, -unb_ite, -toM_ite, -nox_ite, -drop_ite, cmp_eqTup, cmp_neTup, cmp_eqLst, cmp_neLst, mod_int, mul_int, div_int, shr_int, cmp_is, cmp_isnot, xisAny, List.lookup]
    refine number_w (g' _) ?_
    intro c s6 c0 c1
    rw [List.set_set]
    simp (disch := first | assumption | rfl | exact mulOk_r (by omega) (by omega) | exact mulOk_l (by omega) (by omega) | exact divOk_s (by omega) (by omega) | omega | (simp only [List.length_cons, List.length_nil]; omega) | simp only [datT_tup, datT_lst, datT_int, datT_bl, datT_non, List.all_cons, List.all_nil, Bool.and_self, Bool.and_true]) [-bind_ite, -st_ite, -seq_ite, -out_ite, -lp_ite, -tryS_ite, -unb_ite, -toM_ite, -nox_ite, -drop_ite, cmp_eqTup, cmp_neTup, cmp_eqLst, cmp_neLst, mod_int, mul_int, div_int, shr_int, cmp_is, cmp_isnot, xisAny, List.lookup, ad2]
    refine k _ _ (.lease ⟨a0, a1⟩ ⟨c0, c1⟩ hx ?_)
    simp only [List.mem_cons, List.not_mem_nil, or_false] at hho
    rcases hho with rfl | rfl
    · exact .inl rfl
    · exact .inr ⟨b, rfl, b0, b1⟩
  · have zl' : ¬ w = Str.ofString "lease" := zl
    rcases hw with hw | hw | hw
    · exact absurd hw zl
    · simp (disch := first | assumption | rfl | exact mulOk_r (by omega) (by omega) | exact mulOk_l (by omega) (by omega) | exact divOk_s (by omega) (by omega) | omega | (simp only [List.length_cons, List.length_nil]; omega) | simp only [datT_tup, datT_lst, datT_int, datT_bl, datT_non, List.all_cons, List.all_nil, Bool.and_self, Bool.and_true]) [-bind_ite, -st_ite, -seq_ite, -out_ite, -lp_ite, -tryS_ite, -unb_ite, -toM_ite, -nox_ite, -drop_ite, cmp_eqTup, cmp_neTup, cmp_eqLst, cmp_neLst, mod_int, mul_int, div_int, shr_int, cmp_is, cmp_isnot, xisAny, List.lookup, zl', ia, hw]
      refine number_w (g' _) ?_
      intro b s4 b0 b1
      rw [List.set_set]
      simp (disch := first | assumption | rfl | exact mulOk_r (by omega) (by omega) | exact mulOk_l (by omega) (by omega) | exact divOk_s (by omega) (by omega) | omega | (simp only [List.length_cons, List.length_nil]; omega) | simp only [datT_tup, datT_lst, datT_int, datT_bl, datT_non, List.all_cons, List.all_nil, Bool.and_self, Bool.and_true]) [-bind_ite, -st_ite, -seq_ite, -out_ite, -lp_ite, -tryS_ite, -unb_ite, -toM_ite, -nox_ite, -drop_ite, cmp_eqTup, cmp_neTup, cmp_eqLst, cmp_neLst, mod_int, mul_int, div_int, shr_int, cmp_is, cmp_isnot, xisAny, List.lookup, ad1]
      exact k _ _ (.ask hw ⟨a0, a1⟩ ⟨b0, b1⟩ hx)
    · have na : w ∉ ASKs := by
        unfold BAREs at hw
        simp only [List.mem_cons, List.not_mem_nil, or_false] at hw
        rcases hw with rfl | rfl | rfl <;> decide +kernel
      simp (disch := first | assumption | rfl | exact mulOk_r (by omega) (by omega) | exact mulOk_l (by omega) (by omega) | exact divOk_s (by omega) (by omega) | omega | (simp only [List.length_cons, List.length_nil]; omega) | simp only [datT_tup, datT_lst, datT_int, datT_bl, datT_non, List.all_cons, List.all_nil, Bool.and_self, Bool.and_true]) [-bind_ite, -st_ite, -seq_ite, -out_ite, -lp_ite, -tryS_ite, -unb_ite, -toM_ite, -nox_ite, -drop_ite, cmp_eqTup, cmp_neTup, cmp_eqLst, cmp_neLst, mod_int, mul_int, div_int, shr_int, cmp_is, cmp_isnot, xisAny, List.lookup, zl', ia, na]
      exact k _ _ (.bare hw ⟨a0, a1⟩ hx)
/-! what is due -/
theorem chs_dat {l : List Nat} (h : ∀ c ∈ l, c < 128) : (l.map fun c => T.str ⟨#[c]⟩).all (datT 63) = true := by
  refine List.all_eq_true.mpr fun x hx => ?_
  obtain ⟨c, hc, rfl⟩ := List.mem_map.mp hx
  refine strOk_of (fun d hd => ?_) 63
  have : d ∈ [c] := hd
  have := List.mem_singleton.mp this
  have := h c hc
  omega
theorem filt_of {i : Nat} {A : Str} {e : Sl} {P : Nat → Bool} (x : Str) (ha : ∀ c ∈ x.cps.toList, c < 128) (hp : ∀ c m, den (.cmp .NotIn (.var i) (.cst (.str A))) (e.set i (some (.str ⟨#[c]⟩))) m = .ok (.bl (!P c)) m) (hv : ∀ c m, den (.var i) (e.set i (some (.str ⟨#[c]⟩))) m = .ok (.str ⟨#[c]⟩) m) :
    ∃ L, (∀ m, compL (turnC (.one i) [.cmp .NotIn (.var i) (.cst (.str A))] (.var i) e ⟨x.cps.toList.map fun c => T.str ⟨#[c]⟩, none⟩) (x.cps.toList.map fun c => T.str ⟨#[c]⟩) [] m = .ok (.lst L) m) ∧ ∀ m, cmpT .NotEq (.lst L) (.lst []) m = .ok (.bl (!(x.cps.toList.all P))) m ∧ cmpT .Eq (.lst L) (.lst []) m = .ok (.bl (x.cps.toList.all P)) m := by
  refine ⟨(x.cps.toList.filter fun c => !P c).map fun c => T.str ⟨#[c]⟩, fun m => ?_, fun m => ?_⟩
  · refine (compL_fm (fun t => match t with | .str s => if P (s.cps.toList.headD 0) then none else some t | _ => none) ?_).trans ?_
    · intro t ht
      obtain ⟨c, hc, rfl⟩ := List.mem_map.mp ht
      rw [turnC_one]
      cases z : P c with
      | true => simp (disch := first | assumption | rfl | exact mulOk_r (by omega) (by omega) | exact mulOk_l (by omega) (by omega) | exact divOk_s (by omega) (by omega) | omega | (simp only [List.length_cons, List.length_nil]; omega) | simp only [datT_tup, datT_lst, datT_int, datT_bl, datT_non, List.all_cons, List.all_nil, Bool.and_self, Bool.and_true]) [cmp_eqTup, cmp_neTup, cmp_eqLst, cmp_neLst, mod_int, mul_int, div_int, shr_int, cmp_is, cmp_isnot, xisAny, List.lookup, hp, hv, z]
      | false => simp (disch := first | assumption | rfl | exact mulOk_r (by omega) (by omega) | exact mulOk_l (by omega) (by omega) | exact divOk_s (by omega) (by omega) | omega | (simp only [List.length_cons, List.length_nil]; omega) | simp only [datT_tup, datT_lst, datT_int, datT_bl, datT_non, List.all_cons, List.all_nil, Bool.and_self, Bool.and_true]) [cmp_eqTup, cmp_neTup, cmp_eqLst, cmp_neLst, mod_int, mul_int, div_int, shr_int, cmp_is, cmp_isnot, xisAny, List.lookup, hp, hv, z]
    · congr 2
      rw [List.nil_append]
      generalize x.cps.toList = l
      induction l with
      | nil => rfl
      | cons c r ih =>
        rw [List.map_cons, List.filterMap_cons, List.filter_cons, ih]
        cases z : P c <;> simp [z]
  · have dd := chs_dat (l := x.cps.toList.filter fun c => !P c) fun c hc => ha c (List.mem_filter.mp hc).1
    rw [cmp_neLst m dd rfl, cmp_eqLst m dd rfl]
    clear dd ha hp hv
    generalize x.cps.toList = l
    have e : l.all P = decide (l.filter (fun c => !P c) = []) := by
      rw [Bool.eq_iff_iff, List.all_eq_true, decide_eq_true_eq, List.filter_eq_nil_iff]
      simp
    rw [e]
    cases l.filter (fun c => !P c) with
    | nil => exact ⟨rfl, rfl⟩
    | cons a r => simp
noncomputable def nofV (w : Str) : T := if numB w = true then .int (numV w) else .non
theorem figS_sub {w : Str} {c : Nat} (h : c ∈ (figS w).cps.toList) : c ∈ w.cps.toList := by
  unfold figS at h
  split at h
  · exact List.mem_of_mem_tail h
  · exact h
theorem nof_rest (w : Str) (ha : ∀ c ∈ w.cps.toList, c < 128) (m : Sto) : (denSs (b_l_number_of.drop 2) [some (.str w), some (.str (figS w)), none] m).out = .ok (nofV w) m := by
  obtain ⟨L, cm, nl⟩ := filt_of (i := 2) (A := "0123456789") (e := [some (.str w), some (.str (figS w)), none]) (P := fun c => memS c DG) (figS w) (fun c h => ha c (figS_sub h)) (fun c m => by simp (disch := first | assumption | rfl | exact mulOk_r (by omega) (by omega) | exact mulOk_l (by omega) (by omega) | exact divOk_s (by omega) (by omega) | omega | (simp only [List.length_cons, List.length_nil]; omega) | simp only [datT_tup, datT_lst, datT_int, datT_bl, datT_non, List.all_cons, List.all_nil, Bool.and_self, Bool.and_true]) [cmp_eqTup, cmp_neTup, cmp_eqLst, cmp_neLst, mod_int, mul_int, div_int, shr_int, cmp_is, cmp_isnot, xisAny, List.lookup, notin_dg]) (fun c m => by simp (disch := first | assumption | rfl | exact mulOk_r (by omega) (by omega) | exact mulOk_l (by omega) (by omega) | exact divOk_s (by omega) (by omega) | omega | (simp only [List.length_cons, List.length_nil]; omega) | simp only [datT_tup, datT_lst, datT_int, datT_bl, datT_non, List.all_cons, List.all_nil, Bool.and_self, Bool.and_true]) [cmp_eqTup, cmp_neTup, cmp_eqLst, cmp_neLst, mod_int, mul_int, div_int, shr_int, cmp_is, cmp_isnot, xisAny, List.lookup])
  have nl := fun m => (nl m).1
  have hn : numB w = true → PySem.intText? w = some (numV w) ∧ w.length ≤ 41 := num_int
  have it : numB w = true → ∀ m, biT .int [.str w] m = .ok (.int (numV w)) m := fun h m => bi_intT m (by have := (hn h).2; omega) (hn h).1
  have fe : figB w = (decide (1 ≤ (figS w).length) && (decide ((figS w).length ≤ 40) && (figS w).cps.toList.all fun c => memS c DG)) := rfl
  have ne : numB w = (figB w && (decide ((⟨#[(figS w).cps.toList.headD 0]⟩ : Str) ≠ "0") || decide (w = "0"))) := rfl
  have ix : 1 ≤ (figS w).length → ∀ m, idxT (.str (figS w)) (.int 0) m = .ok (.str ⟨#[(figS w).cps.toList.headD 0]⟩) m := fun h m => by
    refine idx_str m ?_
    have : (figS w).cps.toList.length = (figS w).length := rfl
    cases q : (figS w).cps.toList with
    | nil => rw [q] at this; simp at this; omega
    | cons a r =>
      rw [show (0 : Int) = ((0 : Nat) : Int) from rfl]
      exact L2.atI_nat rfl
  have em : figS w = "" ↔ ¬ 1 ≤ (figS w).length := by
    have : (figS w).length = (figS w).cps.toList.length := rfl
    rw [this]
    constructor
    · intro h; rw [h]; decide +kernel
    · intro h
      generalize figS w = F at h ⊢
      obtain ⟨⟨l⟩⟩ := F
      cases l with
      | nil => decide +kernel
      | cons a r => exact absurd (by show 1 ≤ r.length + 1; omega) h
  unfold nofV
  generalize hs : ((figS w).cps.toList.map fun c => T.str ⟨#[c]⟩) = sg at cm
  have wk : ∀ m, walkT (.str (figS w)) m = some ⟨sg, none⟩ := fun m => by rw [walkT_str, hs]
  generalize (figS w).cps.toList.all (fun c => memS c DG) = ab at *
  generalize (⟨#[(figS w).cps.toList.headD 0]⟩ : Str) = hd at *
  generalize figS w = F at *
  simp only [b_l_number_of, List.drop_succ_cons, List.drop_zero]
  by_cases h1 : 1 ≤ F.length
  · have h1' : ¬ F = "" := fun e => em.mp e h1
    have ix := ix h1
    by_cases h2 : F.length ≤ 40
    · have h2' : ¬ (40 : Int) < (F.length : Int) := by omega
      cases ab with
      | true =>
        have fB : figB w = true := by rw [fe]; simp [h1, h2]
        by_cases h3 : hd = "0"
        · by_cases h4 : w = "0"
          · have nB : numB w = true := by rw [ne, fB]; simp [h4]
            have it := it nB
            rw [if_pos nB]
            subst h4
            simp (disch := first | assumption | rfl | exact mulOk_r (by omega) (by omega) | exact mulOk_l (by omega) (by omega) | exact divOk_s (by omega) (by omega) | omega | (simp only [List.length_cons, List.length_nil]; omega) | simp only [datT_tup, datT_lst, datT_int, datT_bl, datT_non, List.all_cons, List.all_nil, Bool.and_self, Bool.and_true]) [cmp_eqTup, cmp_neTup, cmp_eqLst, cmp_neLst, mod_int, mul_int, div_int, shr_int, cmp_is, cmp_isnot, xisAny, List.lookup, -walkT_str, wk, h1', h2', cm, nl, ix, h3, it]
          · have nB : numB w = false := by rw [ne, fB]; simp [h3, h4]
            rw [if_neg (by rw [nB]; decide)]
            simp (disch := first | assumption | rfl | exact mulOk_r (by omega) (by omega) | exact mulOk_l (by omega) (by omega) | exact divOk_s (by omega) (by omega) | omega | (simp only [List.length_cons, List.length_nil]; omega) | simp only [datT_tup, datT_lst, datT_int, datT_bl, datT_non, List.all_cons, List.all_nil, Bool.and_self, Bool.and_true]) [cmp_eqTup, cmp_neTup, cmp_eqLst, cmp_neLst, mod_int, mul_int, div_int, shr_int, cmp_is, cmp_isnot, xisAny, List.lookup, -walkT_str, wk, h1', h2', cm, nl, ix, h3, h4]
        · have nB : numB w = true := by rw [ne, fB]; simp [h3]
          have it := it nB
          rw [if_pos nB]
          simp (disch := first | assumption | rfl | exact mulOk_r (by omega) (by omega) | exact mulOk_l (by omega) (by omega) | exact divOk_s (by omega) (by omega) | omega | (simp only [List.length_cons, List.length_nil]; omega) | simp only [datT_tup, datT_lst, datT_int, datT_bl, datT_non, List.all_cons, List.all_nil, Bool.and_self, Bool.and_true]) [cmp_eqTup, cmp_neTup, cmp_eqLst, cmp_neLst, mod_int, mul_int, div_int, shr_int, cmp_is, cmp_isnot, xisAny, List.lookup, -walkT_str, wk, h1', h2', cm, nl, ix, h3, it]
      | false =>
        have nB : numB w = false := by rw [ne, fe]; simp
        rw [if_neg (by rw [nB]; decide)]
        simp (disch := first | assumption | rfl | exact mulOk_r (by omega) (by omega) | exact mulOk_l (by omega) (by omega) | exact divOk_s (by omega) (by omega) | omega | (simp only [List.length_cons, List.length_nil]; omega) | simp only [datT_tup, datT_lst, datT_int, datT_bl, datT_non, List.all_cons, List.all_nil, Bool.and_self, Bool.and_true]) [cmp_eqTup, cmp_neTup, cmp_eqLst, cmp_neLst, mod_int, mul_int, div_int, shr_int, cmp_is, cmp_isnot, xisAny, List.lookup, -walkT_str, wk, h1', h2', cm, nl]
    · have h2' : (40 : Int) < (F.length : Int) := by omega
      have nB : numB w = false := by rw [ne, fe]; simp [h2]
      rw [if_neg (by rw [nB]; decide)]
      simp (disch := first | assumption | rfl | exact mulOk_r (by omega) (by omega) | exact mulOk_l (by omega) (by omega) | exact divOk_s (by omega) (by omega) | omega | (simp only [List.length_cons, List.length_nil]; omega) | simp only [datT_tup, datT_lst, datT_int, datT_bl, datT_non, List.all_cons, List.all_nil, Bool.and_self, Bool.and_true]) [cmp_eqTup, cmp_neTup, cmp_eqLst, cmp_neLst, mod_int, mul_int, div_int, shr_int, cmp_is, cmp_isnot, xisAny, List.lookup, h1', h2']
  · have h1' : F = "" := em.mpr h1
    have nB : numB w = false := by rw [ne, fe]; simp [h1]
    rw [if_neg (by rw [nB]; decide)]
    simp (disch := first | assumption | rfl | exact mulOk_r (by omega) (by omega) | exact mulOk_l (by omega) (by omega) | exact divOk_s (by omega) (by omega) | omega | (simp only [List.length_cons, List.length_nil]; omega) | simp only [datT_tup, datT_lst, datT_int, datT_bl, datT_non, List.all_cons, List.all_nil, Bool.and_self, Bool.and_true]) [cmp_eqTup, cmp_neTup, cmp_eqLst, cmp_neLst, mod_int, mul_int, div_int, shr_int, cmp_is, cmp_isnot, xisAny, List.lookup, h1']
theorem nof_ok (w : Str) (ha : ∀ c ∈ w.cps.toList, c < 128) (m : Sto) : f_l_number_of [.str w] m = .ok (nofV w) m := by
  have rest := nof_rest w ha
  obtain ⟨B, hB⟩ : ∃ B, B = b_l_number_of.drop 2 := ⟨_, rfl⟩
  have e3 : b_l_number_of = b_l_number_of.take 2 ++ B := by rw [hB]; exact (List.take_append_drop 2 _).symm
  rw [← hB] at rest
  rw [e_l_number_of, e3, denSs_ap]
  clear e3 hB
  simp only [b_l_number_of, List.take_succ_cons, List.take_zero]
  have td := take_dash w
  unfold figS at rest
  by_cases z : Txt.startswith w "-" = true
  · rw [if_pos z] at rest
    rw [z] at td
    simp (disch := first | assumption | rfl | exact mulOk_r (by omega) (by omega) | exact mulOk_l (by omega) (by omega) | exact divOk_s (by omega) (by omega) | omega | (simp only [List.length_cons, List.length_nil]; omega) | simp only [datT_tup, datT_lst, datT_int, datT_bl, datT_non, List.all_cons, List.all_nil, Bool.and_self, Bool.and_true]) [cmp_eqTup, cmp_neTup, cmp_eqLst, cmp_neLst, mod_int, mul_int, div_int, shr_int, cmp_is, cmp_isnot, xisAny, List.lookup, td]
    exact rest m
  · rw [if_neg z] at rest
    rw [Bool.not_eq_true] at z
    rw [z] at td
    simp (disch := first | assumption | rfl | exact mulOk_r (by omega) (by omega) | exact mulOk_l (by omega) (by omega) | exact divOk_s (by omega) (by omega) | omega | (simp only [List.length_cons, List.length_nil]; omega) | simp only [datT_tup, datT_lst, datT_int, datT_bl, datT_non, List.all_cons, List.all_nil, Bool.and_self, Bool.and_true]) [cmp_eqTup, cmp_neTup, cmp_eqLst, cmp_neLst, mod_int, mul_int, div_int, shr_int, cmp_is, cmp_isnot, xisAny, List.lookup, td]
    exact rest m
theorem isH_ok (w : Str) (ha : ∀ c ∈ w.cps.toList, c < 128) (m : Sto) : f_l_is_holder [.str w] m = .ok (.bl (holdB w)) m := by
  obtain ⟨L, cm, nl⟩ := filt_of (i := 1) (A := "abcdefghijklmnopqrstuvwxyz") (e := [some (.str w), none]) (P := letB) w ha (fun c m => by simp (disch := first | assumption | rfl | exact mulOk_r (by omega) (by omega) | exact mulOk_l (by omega) (by omega) | exact divOk_s (by omega) (by omega) | omega | (simp only [List.length_cons, List.length_nil]; omega) | simp only [datT_tup, datT_lst, datT_int, datT_bl, datT_non, List.all_cons, List.all_nil, Bool.and_self, Bool.and_true]) [cmp_eqTup, cmp_neTup, cmp_eqLst, cmp_neLst, mod_int, mul_int, div_int, shr_int, cmp_is, cmp_isnot, xisAny, List.lookup]; rfl) (fun c m => by simp (disch := first | assumption | rfl | exact mulOk_r (by omega) (by omega) | exact mulOk_l (by omega) (by omega) | exact divOk_s (by omega) (by omega) | omega | (simp only [List.length_cons, List.length_nil]; omega) | simp only [datT_tup, datT_lst, datT_int, datT_bl, datT_non, List.all_cons, List.all_nil, Bool.and_self, Bool.and_true]) [cmp_eqTup, cmp_neTup, cmp_eqLst, cmp_neLst, mod_int, mul_int, div_int, shr_int, cmp_is, cmp_isnot, xisAny, List.lookup])
  have eq := fun m => (nl m).2
  generalize hs : (w.cps.toList.map fun c => T.str ⟨#[c]⟩) = sg at cm
  have wk : ∀ m, walkT (.str w) m = some ⟨sg, none⟩ := fun m => by rw [walkT_str, hs]
  have hb : holdB w = (decide (1 ≤ w.length) && (decide (w.length ≤ 8) && w.cps.toList.all letB)) := by
    unfold holdB
    rfl
  rw [e_l_is_holder, b_l_is_holder, hb]
  generalize w.cps.toList.all letB = ab at *
  by_cases h1 : 1 ≤ w.length
  · have h1' : (1 : Int) ≤ (w.length : Int) := by omega
    by_cases h2 : w.length ≤ 8
    · have h2' : (w.length : Int) ≤ 8 := by omega
      simp (disch := first | assumption | rfl | exact mulOk_r (by omega) (by omega) | exact mulOk_l (by omega) (by omega) | exact divOk_s (by omega) (by omega) | omega | (simp only [List.length_cons, List.length_nil]; omega) | simp only [datT_tup, datT_lst, datT_int, datT_bl, datT_non, List.all_cons, List.all_nil, Bool.and_self, Bool.and_true]) [cmp_eqTup, cmp_neTup, cmp_eqLst, cmp_neLst, mod_int, mul_int, div_int, shr_int, cmp_is, cmp_isnot, xisAny, List.lookup, -walkT_str, wk, h1', h2', cm, eq, h1, h2]
    · have h2' : ¬ (w.length : Int) ≤ 8 := by omega
      simp (disch := first | assumption | rfl | exact mulOk_r (by omega) (by omega) | exact mulOk_l (by omega) (by omega) | exact divOk_s (by omega) (by omega) | omega | (simp only [List.length_cons, List.length_nil]; omega) | simp only [datT_tup, datT_lst, datT_int, datT_bl, datT_non, List.all_cons, List.all_nil, Bool.and_self, Bool.and_true]) [cmp_eqTup, cmp_neTup, cmp_eqLst, cmp_neLst, mod_int, mul_int, div_int, shr_int, cmp_is, cmp_isnot, xisAny, List.lookup, -walkT_str, wk, h1', h2', cm, eq, h1, h2]
  · have h1' : ¬ (1 : Int) ≤ (w.length : Int) := by omega
    simp (disch := first | assumption | rfl | exact mulOk_r (by omega) (by omega) | exact mulOk_l (by omega) (by omega) | exact divOk_s (by omega) (by omega) | omega | (simp only [List.length_cons, List.length_nil]; omega) | simp only [datT_tup, datT_lst, datT_int, datT_bl, datT_non, List.all_cons, List.all_nil, Bool.and_self, Bool.and_true]) [cmp_eqTup, cmp_neTup, cmp_eqLst, cmp_neLst, mod_int, mul_int, div_int, shr_int, cmp_is, cmp_isnot, xisAny, List.lookup, -walkT_str, wk, h1', cm, eq, h1]
/-! the row that is due -/
theorem dk_get (x : Str) (m : Sto) (kvs : List (L2.Key × T)) : bmT .dget2 (.hd m.length) [.str x, .int 0] (m ++ [.dK kvs]) = .ok ((dgetT kvs (.inr x)).getD (.int 0)) (m ++ [.dK kvs]) := bm_get2 (by simp) rfl
noncomputable def DK : List (L2.Key × T) := [(.inr "lease", .int 5), (.inr "ask", .int 4), (.inr "store", .int 4), (.inr "take", .int 4), (.inr "back", .int 3), (.inr "fall", .int 3), (.inr "bare", .int 3)]
theorem dk_new (m : Sto) : dnewT m.length [.str "lease", .int 5, .str "ask", .int 4, .str "store", .int 4, .str "take", .int 4, .str "back", .int 3, .str "fall", .int 3, .str "bare", .int 3] (m ++ [.dK []]) = .ok (.hd m.length) (m ++ [.dK DK]) := by
  rw [dnew_end (kvs := DK) rfl (by decide)]
  congr 4
section
variable (m : Sto) (c : Cell) (L : List T)
theorem h2 : (m ++ [c, .lst L])[m.length + 1]? = some (.lst L) := by simp
theorem lo2 : lstOf (m ++ [c, .lst L]) (.hd (m.length + 1)) = some L := lstOf_hd (h2 m c L)
theorem ix2 (i : Int) : idxT (.hd (m.length + 1)) (.int i) (m ++ [c, .lst L]) = atT (L2.atI L i) (m ++ [c, .lst L]) := idx_hd (h2 m c L) i
theorem sl2 (lo hi : Option Int) : slcT (.hd (m.length + 1)) lo hi (m ++ [c, .lst L]) = .ok (.lst (cutT L lo hi)) (m ++ [c, .lst L]) := by
  unfold slcT
  dsimp only
  rw [lstOf_hd (h2 m c L)]
theorem sb2 (a b x : T) (e : Sl) : subS (.hd (m.length + 1)) (.int 1) x e (m ++ [c, .lst (a :: b :: L)]) = .nx e (m ++ [c, .lst (a :: x :: L)]) := by
  rw [sub_hd (h2 m c (a :: b :: L)) (by decide) (by simp; omega)]
  congr 1
  simp
theorem in2 (h : L.all flatT = true) : cmpT .In .non (.hd (m.length + 1)) (m ++ [c, .lst L]) = .ok (.bl (L.any fun y => eqF y .non)) (m ++ [c, .lst L]) := by
  have e1 : seqOf (m ++ [c, .lst L]) (.hd (m.length + 1)) = some L := by
    unfold seqOf
    dsimp only
    rw [lstOf_hd (h2 m c L)]
  have h : inF .non L = some (L.any fun y => eqF y .non) := by
    unfold inF
    rw [if_pos (by rw [h]; rfl)]
  unfold cmpT cmpB inT
  dsimp only
  rw [e1]
  dsimp only
  rw [h]
noncomputable def cmpN (n : Nat) (m : Sto) : Rs T := cmpT .In .non (.hd n) m
def flL : List T → Bool
  | [] => true
  | .int _ :: r => flL r
  | .str _ :: r => flL r
  | .non :: r => flL r
  | _ => false
def noL : List T → Bool
  | [] => false
  | .non :: _ => true
  | _ :: r => noL r
theorem flL_all : ∀ L : List T, flL L = true → L.all flatT = true ∧ (L.any fun y => eqF y .non) = noL L
  | [], _ => ⟨rfl, rfl⟩
  | .int _ :: r, h => flL_all r h
  | .str _ :: r, h => flL_all r h
  | .non :: r, h => ⟨(flL_all r h).1, rfl⟩
theorem in3 (m : Sto) (c : Cell) (L : List T) : cmpT .In .non (.hd (m.length + 1)) (m ++ [c, .lst L]) = if flL L = true then .ok (.bl (noL L)) (m ++ [c, .lst L]) else cmpN (m.length + 1) (m ++ [c, .lst L]) := by
  split
  case isTrue h => rw [in2 m c L (flL_all L h).1, (flL_all L h).2]
  case isFalse h => rfl
end
theorem adT32 (a b c d e : T) (m : Sto) : binT .Add (.tup [a, b, c]) (.tup [d, e]) m = .ok (.tup [a, b, c, d, e]) m := rfl
theorem adT31 (a b c d : T) (m : Sto) : binT .Add (.tup [a, b, c]) (.tup [d]) m = .ok (.tup [a, b, c, d]) m := rfl
theorem adT30 (a b c : T) (m : Sto) : binT .Add (.tup [a, b, c]) (.tup []) m = .ok (.tup [a, b, c]) m := rfl
theorem adT41 (a b c d e : T) (m : Sto) : binT .Add (.tup [a, b, c, d]) (.tup [e]) m = .ok (.tup [a, b, c, d, e]) m := rfl
theorem dk_bt (m : Sto) : bmTy .dget2 (.hd m.length) (m ++ [.dK DK]) = true := by
  show (dicOf (m ++ [.dK DK]) (.hd m.length)).isSome = true
  unfold dicOf
  dsimp only
  simp
theorem due_lease (y z h n : Str) (hy : ∀ c ∈ y.cps.toList, c < 128) (hz : ∀ c ∈ z.cps.toList, c < 128) (hh : ∀ c ∈ h.cps.toList, c < 128) (hn : ∀ c ∈ n.cps.toList, c < 128) (m : Sto) :
    f_l_due [.lst [.str "lease", .str y, .str z, .str h, .str n]] m = .ok ((rowV ["lease", y, z, h, n]).getD .non) m := by
  have e1 := nof_ok y hy
  have e2 := nof_ok h hh
  have e3 := nof_ok n hn
  have e4 := isH_ok z hz
  have d5 : dgetT DK (.inr (Str.ofString "lease")) = some (.int 5) := rfl
  have ad1 : ∀ m, binT .Add (.lst [.str "lease", .str y, .str z, .str h, .str n]) (.lst [.str ""]) m = .ok (.lst [.str "lease", .str y, .str z, .str h, .str n, .str ""]) m := fun m => add_lst m (by simp)
  have ad2 : ∀ m, binT .Add (.lst [.str y]) (.lst [.str h, .str n]) m = .ok (.lst [.str y, .str h, .str n]) m := fun m => add_lst m (by simp)
  have cm : ∀ m x e r, compL (turnC (.one 3) [] (.call f_l_number_of [.var 3]) [some x, some e, none, none, r] ⟨[.str y, .str h, .str n], none⟩) [.str y, .str h, .str n] [] m = .ok (.lst [nofV y, nofV h, nofV n]) m := fun m x e r => by
    have := compL_st (i := 3) (x := .call f_l_number_of [.var 3]) (e := [some x, some e, none, none, r]) (xs := [.str y, .str h, .str n]) (n := none) (m := m) trivial (fun t => match t with | .str s => nofV s | _ => .non) fun t ht => by
      simp only [List.mem_cons, List.not_mem_nil, or_false] at ht
      rcases ht with rfl | rfl | rfl
      · simp (disch := first | assumption | rfl | exact mulOk_r (by omega) (by omega) | exact mulOk_l (by omega) (by omega) | exact divOk_s (by omega) (by omega) | omega | (simp only [List.length_cons, List.length_nil]; omega) | simp only [datT_tup, datT_lst, datT_int, datT_bl, datT_non, List.all_cons, List.all_nil, Bool.and_self, Bool.and_true]) [cmp_eqTup, cmp_neTup, cmp_eqLst, cmp_neLst, mod_int, mul_int, div_int, shr_int, cmp_is, cmp_isnot, xisAny, List.lookup, e1]
      · simp (disch := first | assumption | rfl | exact mulOk_r (by omega) (by omega) | exact mulOk_l (by omega) (by omega) | exact divOk_s (by omega) (by omega) | omega | (simp only [List.length_cons, List.length_nil]; omega) | simp only [datT_tup, datT_lst, datT_int, datT_bl, datT_non, List.all_cons, List.all_nil, Bool.and_self, Bool.and_true]) [cmp_eqTup, cmp_neTup, cmp_eqLst, cmp_neLst, mod_int, mul_int, div_int, shr_int, cmp_is, cmp_isnot, xisAny, List.lookup, e2]
      · simp (disch := first | assumption | rfl | exact mulOk_r (by omega) (by omega) | exact mulOk_l (by omega) (by omega) | exact divOk_s (by omega) (by omega) | omega | (simp only [List.length_cons, List.length_nil]; omega) | simp only [datT_tup, datT_lst, datT_int, datT_bl, datT_non, List.all_cons, List.all_nil, Bool.and_self, Bool.and_true]) [cmp_eqTup, cmp_neTup, cmp_eqLst, cmp_neLst, mod_int, mul_int, div_int, shr_int, cmp_is, cmp_isnot, xisAny, List.lookup, e3]
    exact this
  have rv : rowV ["lease", y, z, h, n] = if numB y = true then (if holdB z = true then (if h = ("any" : Str) ∨ numB h = true then (if numB n = true then some (.tup [.str "lease", .int (numV y), .str z, if h = ("any" : Str) then .non else .int (numV h), .int (numV n)]) else none) else none) else none) else none := rfl
  unfold nofV at cm
  rw [rv, e_l_due, b_l_due]
  clear rv e1 e2 e3 hy hz hh hn
  by_cases qz : holdB z = true
  · rw [qz] at e4
    by_cases qa : h = ("any" : Str)
    · subst qa
      by_cases qy : numB y = true <;> by_cases qn : numB n = true <;> simp only [qy, qn, qz, if_true, if_false, Bool.false_eq_true, true_or, or_true, false_or, or_false, ↓reduceIte] at cm ⊢ <;> simp (disch := first | assumption | rfl | exact mulOk_r (by omega) (by omega) | exact mulOk_l (by omega) (by omega) | exact divOk_s (by omega) (by omega) | omega | (simp only [List.length_cons, List.length_nil]; omega) | simp only [datT_tup, datT_lst, datT_int, datT_bl, datT_non, List.all_cons, List.all_nil, Bool.and_self, Bool.and_true]) [cmp_eqTup, cmp_neTup, cmp_eqLst, cmp_neLst, mod_int, mul_int, div_int, shr_int, cmp_is, cmp_isnot, xisAny, List.lookup, dk_bt, dk_new, dk_get, d5, e4, atI_lit, ad1, ad2, cm, lo2, ix2, sl2, sb2, in3, flL, noL, adT32, adT31, adT30, adT41]
    · by_cases qh : numB h = true
      · by_cases qy : numB y = true <;> by_cases qn : numB n = true <;> simp only [qy, qh, qa, qn, qz, if_true, if_false, Bool.false_eq_true, true_or, or_true, false_or, or_false, ↓reduceIte] at cm ⊢ <;> simp (disch := first | assumption | rfl | exact mulOk_r (by omega) (by omega) | exact mulOk_l (by omega) (by omega) | exact divOk_s (by omega) (by omega) | omega | (simp only [List.length_cons, List.length_nil]; omega) | simp only [datT_tup, datT_lst, datT_int, datT_bl, datT_non, List.all_cons, List.all_nil, Bool.and_self, Bool.and_true]) [cmp_eqTup, cmp_neTup, cmp_eqLst, cmp_neLst, mod_int, mul_int, div_int, shr_int, cmp_is, cmp_isnot, xisAny, List.lookup, dk_bt, dk_new, dk_get, d5, e4, atI_lit, ad1, ad2, cm, lo2, ix2, sl2, sb2, in3, flL, noL, adT32, adT31, adT30, adT41, qa]
      · by_cases qy : numB y = true <;> by_cases qn : numB n = true <;> simp only [qy, qh, qa, qn, qz, if_true, if_false, Bool.false_eq_true, true_or, or_true, false_or, or_false, ↓reduceIte] at cm ⊢ <;> simp (disch := first | assumption | rfl | exact mulOk_r (by omega) (by omega) | exact mulOk_l (by omega) (by omega) | exact divOk_s (by omega) (by omega) | omega | (simp only [List.length_cons, List.length_nil]; omega) | simp only [datT_tup, datT_lst, datT_int, datT_bl, datT_non, List.all_cons, List.all_nil, Bool.and_self, Bool.and_true]) [cmp_eqTup, cmp_neTup, cmp_eqLst, cmp_neLst, mod_int, mul_int, div_int, shr_int, cmp_is, cmp_isnot, xisAny, List.lookup, dk_bt, dk_new, dk_get, d5, e4, atI_lit, ad1, ad2, cm, lo2, ix2, sl2, sb2, in3, flL, noL, adT32, adT31, adT30, adT41, qa]
  · rw [Bool.not_eq_true] at qz
    simp only [qz, if_false, Bool.false_eq_true, ite_self]
    rw [qz] at e4
    simp (disch := first | assumption | rfl | exact mulOk_r (by omega) (by omega) | exact mulOk_l (by omega) (by omega) | exact divOk_s (by omega) (by omega) | omega | (simp only [List.length_cons, List.length_nil]; omega) | simp only [datT_tup, datT_lst, datT_int, datT_bl, datT_non, List.all_cons, List.all_nil, Bool.and_self, Bool.and_true]) [cmp_eqTup, cmp_neTup, cmp_eqLst, cmp_neLst, mod_int, mul_int, div_int, shr_int, cmp_is, cmp_isnot, xisAny, List.lookup, dk_bt, dk_new, dk_get, d5, e4, atI_lit, ad1]
theorem due_ask (x y z n : Str) (hx : x = "ask" ∨ x = "store" ∨ x = "take") (hy : ∀ c ∈ y.cps.toList, c < 128) (hz : ∀ c ∈ z.cps.toList, c < 128) (hn : ∀ c ∈ n.cps.toList, c < 128) (m : Sto) :
    f_l_due [.lst [.str x, .str y, .str z, .str n]] m = .ok ((rowV [x, y, z, n]).getD .non) m := by
  have ny := nof_ok y hy
  have nn := nof_ok n hn
  have e4 := isH_ok z hz
  have d5 : dgetT DK (.inr x) = some (.int 4) := by rcases hx with rfl | rfl | rfl <;> rfl
  have ad1 : ∀ m, binT .Add (.lst [.str x, .str y, .str z, .str n]) (.lst [.str ""]) m = .ok (.lst [.str x, .str y, .str z, .str n, .str ""]) m := fun m => add_lst m (by simp)
  have ad2 : ∀ m, binT .Add (.lst [.str y]) (.lst [.str n]) m = .ok (.lst [.str y, .str n]) m := fun m => add_lst m (by simp)
  have cm : ∀ m x e r, compL (turnC (.one 3) [] (.call f_l_number_of [.var 3]) [some x, some e, none, none, r] ⟨[.str y, .str n], none⟩) [.str y, .str n] [] m = .ok (.lst [nofV y, nofV n]) m := fun m x e r => by
    have := compL_st (i := 3) (x := .call f_l_number_of [.var 3]) (e := [some x, some e, none, none, r]) (xs := [.str y, .str n]) (n := none) (m := m) trivial (fun t => match t with | .str s => nofV s | _ => .non) fun t ht => by
      simp only [List.mem_cons, List.not_mem_nil, or_false] at ht
      rcases ht with rfl | rfl
      · simp (disch := first | assumption | rfl | exact mulOk_r (by omega) (by omega) | exact mulOk_l (by omega) (by omega) | exact divOk_s (by omega) (by omega) | omega | (simp only [List.length_cons, List.length_nil]; omega) | simp only [datT_tup, datT_lst, datT_int, datT_bl, datT_non, List.all_cons, List.all_nil, Bool.and_self, Bool.and_true]) [cmp_eqTup, cmp_neTup, cmp_eqLst, cmp_neLst, mod_int, mul_int, div_int, shr_int, cmp_is, cmp_isnot, xisAny, List.lookup, ny]
      · simp (disch := first | assumption | rfl | exact mulOk_r (by omega) (by omega) | exact mulOk_l (by omega) (by omega) | exact divOk_s (by omega) (by omega) | omega | (simp only [List.length_cons, List.length_nil]; omega) | simp only [datT_tup, datT_lst, datT_int, datT_bl, datT_non, List.all_cons, List.all_nil, Bool.and_self, Bool.and_true]) [cmp_eqTup, cmp_neTup, cmp_eqLst, cmp_neLst, mod_int, mul_int, div_int, shr_int, cmp_is, cmp_isnot, xisAny, List.lookup, nn]
    exact this
  have rv : rowV [x, y, z, n] = if numB y = true then (if holdB z = true then (if numB n = true then some (.tup [.str x, .int (numV y), .str z, .int (numV n)]) else none) else none) else none := by
    rcases hx with rfl | rfl | rfl <;> rfl
  unfold nofV at cm
  rw [rv, e_l_due, b_l_due]
  clear rv ny nn hy hz hn hx
  by_cases qz : holdB z = true
  · rw [qz] at e4
    by_cases qy : numB y = true <;> by_cases qn : numB n = true <;> simp only [qy, qn, qz, if_true, if_false, Bool.false_eq_true, true_or, or_true, false_or, or_false, ↓reduceIte] at cm ⊢ <;> simp (disch := first | assumption | rfl | exact mulOk_r (by omega) (by omega) | exact mulOk_l (by omega) (by omega) | exact divOk_s (by omega) (by omega) | omega | (simp only [List.length_cons, List.length_nil]; omega) | simp only [datT_tup, datT_lst, datT_int, datT_bl, datT_non, List.all_cons, List.all_nil, Bool.and_self, Bool.and_true]) [cmp_eqTup, cmp_neTup, cmp_eqLst, cmp_neLst, mod_int, mul_int, div_int, shr_int, cmp_is, cmp_isnot, xisAny, List.lookup, dk_bt, dk_new, dk_get, d5, e4, atI_lit, ad1, ad2, cm, lo2, ix2, sl2, sb2, in3, flL, noL, adT32, adT31, adT30, adT41]
  · rw [Bool.not_eq_true] at qz
    simp only [qz, if_false, Bool.false_eq_true, ite_self]
    rw [qz] at e4
    simp (disch := first | assumption | rfl | exact mulOk_r (by omega) (by omega) | exact mulOk_l (by omega) (by omega) | exact divOk_s (by omega) (by omega) | omega | (simp only [List.length_cons, List.length_nil]; omega) | simp only [datT_tup, datT_lst, datT_int, datT_bl, datT_non, List.all_cons, List.all_nil, Bool.and_self, Bool.and_true]) [cmp_eqTup, cmp_neTup, cmp_eqLst, cmp_neLst, mod_int, mul_int, div_int, shr_int, cmp_is, cmp_isnot, xisAny, List.lookup, dk_bt, dk_new, dk_get, d5, e4, atI_lit, ad1]
theorem due_bare (x y z : Str) (hx : x = "back" ∨ x = "fall" ∨ x = "bare") (hy : ∀ c ∈ y.cps.toList, c < 128) (hz : ∀ c ∈ z.cps.toList, c < 128) (m : Sto) :
    f_l_due [.lst [.str x, .str y, .str z]] m = .ok ((rowV [x, y, z]).getD .non) m := by
  have ny := nof_ok y hy
  have e4 := isH_ok z hz
  have d5 : dgetT DK (.inr x) = some (.int 3) := by rcases hx with rfl | rfl | rfl <;> rfl
  have ad1 : ∀ m, binT .Add (.lst [.str x, .str y, .str z]) (.lst [.str ""]) m = .ok (.lst [.str x, .str y, .str z, .str ""]) m := fun m => add_lst m (by simp)
  have ad2 : ∀ m, binT .Add (.lst [.str y]) (.lst []) m = .ok (.lst [.str y]) m := fun m => add_lst m (by simp)
  have cm : ∀ m x e r, compL (turnC (.one 3) [] (.call f_l_number_of [.var 3]) [some x, some e, none, none, r] ⟨[.str y], none⟩) [.str y] [] m = .ok (.lst [nofV y]) m := fun m x e r => by
    have := compL_st (i := 3) (x := .call f_l_number_of [.var 3]) (e := [some x, some e, none, none, r]) (xs := [.str y]) (n := none) (m := m) trivial (fun t => match t with | .str s => nofV s | _ => .non) fun t ht => by
      simp only [List.mem_cons, List.not_mem_nil, or_false] at ht
      subst ht
      simp (disch := first | assumption | rfl | exact mulOk_r (by omega) (by omega) | exact mulOk_l (by omega) (by omega) | exact divOk_s (by omega) (by omega) | omega | (simp only [List.length_cons, List.length_nil]; omega) | simp only [datT_tup, datT_lst, datT_int, datT_bl, datT_non, List.all_cons, List.all_nil, Bool.and_self, Bool.and_true]) [cmp_eqTup, cmp_neTup, cmp_eqLst, cmp_neLst, mod_int, mul_int, div_int, shr_int, cmp_is, cmp_isnot, xisAny, List.lookup, ny]
    exact this
  have rv : rowV [x, y, z] = if numB y = true then (if holdB z = true then (some (.tup [.str x, .int (numV y), .str z])) else none) else none := by
    rcases hx with rfl | rfl | rfl <;> rfl
  unfold nofV at cm
  rw [rv, e_l_due, b_l_due]
  clear rv ny hy hz hx
  by_cases qz : holdB z = true
  · rw [qz] at e4
    by_cases qy : numB y = true <;> simp only [qy, qz, if_true, if_false, Bool.false_eq_true, true_or, or_true, false_or, or_false, ↓reduceIte] at cm ⊢ <;> simp (disch := first | assumption | rfl | exact mulOk_r (by omega) (by omega) | exact mulOk_l (by omega) (by omega) | exact divOk_s (by omega) (by omega) | omega | (simp only [List.length_cons, List.length_nil]; omega) | simp only [datT_tup, datT_lst, datT_int, datT_bl, datT_non, List.all_cons, List.all_nil, Bool.and_self, Bool.and_true]) [cmp_eqTup, cmp_neTup, cmp_eqLst, cmp_neLst, mod_int, mul_int, div_int, shr_int, cmp_is, cmp_isnot, xisAny, List.lookup, dk_bt, dk_new, dk_get, d5, e4, atI_lit, ad1, ad2, cm, lo2, ix2, sl2, sb2, in3, flL, noL, adT32, adT31, adT30, adT41]
  · rw [Bool.not_eq_true] at qz
    simp only [qz, if_false, Bool.false_eq_true, ite_self]
    rw [qz] at e4
    simp (disch := first | assumption | rfl | exact mulOk_r (by omega) (by omega) | exact mulOk_l (by omega) (by omega) | exact divOk_s (by omega) (by omega) | omega | (simp only [List.length_cons, List.length_nil]; omega) | simp only [datT_tup, datT_lst, datT_int, datT_bl, datT_non, List.all_cons, List.all_nil, Bool.and_self, Bool.and_true]) [cmp_eqTup, cmp_neTup, cmp_eqLst, cmp_neLst, mod_int, mul_int, div_int, shr_int, cmp_is, cmp_isnot, xisAny, List.lookup, dk_bt, dk_new, dk_get, d5, e4, atI_lit, ad1]
theorem due_no0 {x : Str} {r : List Str} {k : Nat} (hl : r.length ≤ 1000) (hd : (dgetT DK (.inr x)).getD (.int 0) = .int k) (hk : k = 0 ∨ r.length + 1 ≠ k) (m : Sto) : f_l_due [.lst (.str x :: r.map .str)] m = .ok .non m := by
  have ad1 : ∀ m, binT .Add (.lst (.str x :: r.map .str)) (.lst [.str ""]) m = .ok (.lst (.str x :: (r.map .str ++ [.str ""]))) m := fun m => by
    rw [add_lst m (by simp; omega)]
    rfl
  have a0 : ∀ l : List T, L2.atI (T.str x :: l) 0 = some (.str x) := fun l => L2.atI_nat rfl
  have ln : ∀ m, biT .len [.lst (.str x :: r.map .str)] m = .ok (.int ((r.length + 1 : Nat) : Int)) m := fun m => by
    rw [len_lst]
    simp
  generalize r.length + 1 = q at *
  generalize r.map T.str = L at *
  rw [e_l_due, b_l_due]
  by_cases z : k = 0
  · subst z
    simp (disch := first | assumption | rfl | exact mulOk_r (by omega) (by omega) | exact mulOk_l (by omega) (by omega) | exact divOk_s (by omega) (by omega) | omega | (simp only [List.length_cons, List.length_nil]; omega) | simp only [datT_tup, datT_lst, datT_int, datT_bl, datT_non, List.all_cons, List.all_nil, Bool.and_self, Bool.and_true]) [cmp_eqTup, cmp_neTup, cmp_eqLst, cmp_neLst, mod_int, mul_int, div_int, shr_int, cmp_is, cmp_isnot, xisAny, List.lookup, -len_lst, dk_bt, dk_new, dk_get, hd, atI_lit, ad1, a0, ln]
  · have z' : ¬ (k : Int) = 0 := by omega
    have z2 : ¬ (q : Int) = (k : Int) := by have := hk.resolve_left z; omega
    simp (disch := first | assumption | rfl | exact mulOk_r (by omega) (by omega) | exact mulOk_l (by omega) (by omega) | exact divOk_s (by omega) (by omega) | omega | (simp only [List.length_cons, List.length_nil]; omega) | simp only [datT_tup, datT_lst, datT_int, datT_bl, datT_non, List.all_cons, List.all_nil, Bool.and_self, Bool.and_true]) [cmp_eqTup, cmp_neTup, cmp_eqLst, cmp_neLst, mod_int, mul_int, div_int, shr_int, cmp_is, cmp_isnot, xisAny, List.lookup, -len_lst, dk_bt, dk_new, dk_get, hd, atI_lit, ad1, a0, ln, z', z2, z]
theorem row_l {r : List Str} (h : r.length + 1 ≠ 5) : rowV ("lease" :: r) = none := by
  match r, h with
  | [], _ => rfl
  | [a], _ => show (if numB a = true then none else none) = _; split <;> rfl
  | [a, b], _ => show (if numB a = true then (if holdB b = true then none else none) else none) = _; simp only [ite_self]
  | [a, b, c], _ => show (if numB a = true then (if holdB b = true then (if c = ("any" : Str) ∨ numB c = true then none else none) else none) else none) = _; simp only [ite_self]
  | a :: b :: c :: d :: e :: s, h =>
    show (if numB a = true then (if holdB b = true then (if c = ("any" : Str) ∨ numB c = true then (if numB d = true then (if s.length + 6 = 5 then _ else none) else none) else none) else none) else none) = _
    rw [if_neg (show ¬ s.length + 6 = 5 by omega)]
    repeat' split
    all_goals rfl
theorem row_a {x : Str} {r : List Str} (hx : x = "ask" ∨ x = "store" ∨ x = "take") (h : r.length + 1 ≠ 4) : rowV (x :: r) = none := by
  match r, h with
  | [], _ => rcases hx with rfl | rfl | rfl <;> rfl
  | [a], _ => rcases hx with rfl | rfl | rfl <;> (show (if numB a = true then none else none) = _; split <;> rfl)
  | [a, b], _ => rcases hx with rfl | rfl | rfl <;> (show (if numB a = true then (if holdB b = true then none else none) else none) = _; simp only [ite_self])
  | a :: b :: c :: d :: s, h =>
    have : rowV (x :: a :: b :: c :: d :: s) = (if numB a = true then (if holdB b = true then (if numB c = true then (if s.length + 5 = 4 then some (.tup [.str x, .int (numV a), .str b, .int (numV c)]) else none) else none) else none) else none) := by
      rcases hx with rfl | rfl | rfl <;> rfl
    rw [this, if_neg (show ¬ s.length + 5 = 4 by omega)]
    repeat' split
    all_goals rfl
theorem row_b {x : Str} {r : List Str} (hx : x = "back" ∨ x = "fall" ∨ x = "bare") (h : r.length + 1 ≠ 3) : rowV (x :: r) = none := by
  match r, h with
  | [], _ => rcases hx with rfl | rfl | rfl <;> rfl
  | [a], _ => rcases hx with rfl | rfl | rfl <;> (show (if numB a = true then none else none) = _; split <;> rfl)
  | a :: b :: c :: s, h =>
    have : rowV (x :: a :: b :: c :: s) = (if numB a = true then (if holdB b = true then (if s.length + 4 = 3 then some (.tup [.str x, .int (numV a), .str b]) else none) else none) else none) := by
      rcases hx with rfl | rfl | rfl <;> rfl
    rw [this, if_neg (show ¬ s.length + 4 = 3 by omega)]
    repeat' split
    all_goals rfl
theorem due_ok {ws : List Str} (ne : ws ≠ []) (hl : ws.length ≤ 10) (ha : ∀ w ∈ ws, ∀ c ∈ w.cps.toList, c < 128) (m : Sto) : f_l_due [.lst (ws.map .str)] m = .ok ((rowV ws).getD .non) m := by
  match ws, ne with
  | x :: r, _ =>
  have hl2 : r.length ≤ 1000 := by simp at hl; omega
  rw [List.map_cons]
  by_cases x1 : x = "lease"
  · subst x1
    by_cases q : r.length + 1 = 5
    · match r, q with
      | [y, z, h, n], _ => exact due_lease y z h n (ha _ (by simp)) (ha _ (by simp)) (ha _ (by simp)) (ha _ (by simp)) m
    · rw [row_l q]
      exact due_no0 hl2 (k := 5) rfl (.inr q) m
  by_cases x2 : x = "ask" ∨ x = "store" ∨ x = "take"
  · by_cases q : r.length + 1 = 4
    · match r, q with
      | [y, z, n], _ => exact due_ask x y z n x2 (ha _ (by simp)) (ha _ (by simp)) (ha _ (by simp)) m
    · rw [row_a x2 q]
      exact due_no0 hl2 (k := 4) (by rcases x2 with rfl | rfl | rfl <;> rfl) (.inr q) m
  by_cases x3 : x = "back" ∨ x = "fall" ∨ x = "bare"
  · by_cases q : r.length + 1 = 3
    · match r, q with
      | [y, z], _ => exact due_bare x y z x3 (ha _ (by simp)) (ha _ (by simp)) m
    · rw [row_b x3 q]
      exact due_no0 hl2 (k := 3) (by rcases x3 with rfl | rfl | rfl <;> rfl) (.inr q) m
  have hn : x ∉ LL := fun e => by
    simp only [LL, ASKs, BAREs, List.mem_cons, List.mem_append, List.not_mem_nil, or_false] at e
    rcases e with e | e | e | e | e | e | e
    · exact x1 e
    · exact x2 (.inl e)
    · exact x2 (.inr (.inl e))
    · exact x2 (.inr (.inr e))
    · exact x3 (.inl e)
    · exact x3 (.inr (.inl e))
    · exact x3 (.inr (.inr e))
  rw [no0 (ws := x :: r) fun y hy => by
    have : y = x := by
      have := hy
      simp at this
      exact this.symm
    rw [this]
    exact hn]
  refine due_no0 hl2 (k := 0) ?_ (.inl rfl) m
  have n1 : ∀ a : Str, a ≠ x → ((Sum.inr a : L2.Key) = Sum.inr x) = False := fun a h => by simp [h]
  have : dgetT DK (.inr x) = none := by
    unfold dgetT DK
    simp only [List.find?, n1 _ (fun e => x1 e.symm), n1 _ (fun e => x2 (.inl e.symm)), n1 _ (fun e => x2 (.inr (.inl e.symm))), n1 _ (fun e => x2 (.inr (.inr e.symm))), n1 _ (fun e => x3 (.inl e.symm)), n1 _ (fun e => x3 (.inr (.inl e.symm))), n1 _ (fun e => x3 (.inr (.inr e.symm))), decide_false]
    rfl
  rw [this]
  rfl
/-! words changed -/
def Gd (w : Str) : Bool := (w.cps.toList.all fun c => decide (c < 128) && decide (c ≠ 32)) && decide (w.length ≤ 2000)
theorem Gd.asc {w : Str} (h : Gd w = true) : ∀ c ∈ w.cps.toList, c < 128 := fun c hc => by
  unfold Gd at h
  rw [Bool.and_eq_true, List.all_eq_true] at h
  have := h.1 c hc
  simp at this
  exact this.1
theorem Gd.bl {w : Str} (h : Gd w = true) : 32 ∉ w.cps.toList := fun hc => by
  unfold Gd at h
  rw [Bool.and_eq_true, List.all_eq_true] at h
  have := h.1 32 hc
  simp at this
theorem Gd.sm {w : Str} (h : Gd w = true) : w.length ≤ 2000 := by
  unfold Gd at h
  rw [Bool.and_eq_true, decide_eq_true_eq] at h
  exact h.2
theorem wds_of {ws : List Str} (ne : ws ≠ []) (hl : ws.length ≤ 10) (h : ∀ w ∈ ws, Gd w = true) : Wds ws := ⟨ne, hl, fun w hw => Gd.bl (h w hw), fun w hw => Gd.sm (h w hw)⟩
def W20 : List Str := ["any", "none", "lease", "leases", "0", "-0", "05", "-7", "+7", "7.0", "", "anna", "Anna", "abcdefghi", "a1", repS "1" 40, repS "1" 41, "-" ++ repS "1" 40, "runs", "-"]
theorem w20_gd : ∀ w ∈ W20, Gd w = true := by decide +kernel
theorem atM_w {ws : List Str} {i : Int} {m : Sto} {K : PR T} (h0 : 0 ≤ i) (h1 : i < ws.length) (k : ∀ w, w ∈ ws → K.ok (.str w) m) : W (atT (L2.atI (ws.map T.str) i) m) K := by
  refine atQ_w h0 (by simpa using h1) fun t _ ht => ?_
  obtain ⟨w, hw, rfl⟩ := List.mem_map.mp ht
  exact k w hw
theorem changed_w {m : Sto} {h : Nat} {s : St3} {ws : List Str} {K : PR T} (g : m[h]? = some (cel s)) (l0 : 3 ≤ ws.length) (l1 : ws.length ≤ 5) (hg : ∀ w ∈ ws, Gd w = true)
    (k : ∀ zs s', zs ≠ [] → zs.length ≤ 10 → (∀ w ∈ zs, Gd w = true) → K.ok (.lst (zs.map .str)) (m.set h (cel s'))) : W (f_l_changed [.hd h, .lst (ws.map .str)] m) K := by
  have g' := fun (s' : St3) => gs_same (c := cel s') g
  have m40 : ∀ m, binT .Mult (.str "1") (.int 40) m = .ok (.str (repS "1" 40)) m := fun m => mul_txt m (by decide +kernel)
  have m41 : ∀ m, binT .Mult (.str "1") (.int 41) m = .ok (.str (repS "1" 41)) m := fun m => mul_txt m (by decide +kernel)
  have sa : ∀ m, binT .Add (.str "-") (.str (repS "1" 40)) m = .ok (.str ("-" ++ repS "1" 40)) m := fun m => add_str m (by decide +kernel)
  have ad : ∀ m, binT .Add (.lst [.str "any", .str "none", .str "lease", .str "leases", .str "0", .str "-0", .str "05", .str "-7", .str "+7", .str "7.0", .str "", .str "anna", .str "Anna", .str "abcdefghi", .str "a1"]) (.lst [.str (repS "1" 40), .str (repS "1" 41), .str ("-" ++ repS "1" 40), .str "runs", .str "-"]) m = .ok (.lst (W20.map .str)) m := fun m => by
    rw [add_lst m (by simp)]
    rfl
  have ln : ∀ m, biT .len [.lst (ws.map .str)] m = .ok (.int (ws.length : Int)) m := fun m => by
    rw [len_lst]
    simp
  have adm : ∀ (a b : List Str) m, a.length ≤ 100 → b.length ≤ 100 → binT .Add (.lst (a.map .str)) (.lst (b.map .str)) m = .ok (.lst ((a ++ b).map .str)) m := fun a b m h1 h2 => by
    rw [add_lst m (by simp; omega), List.map_append]
  have ct : ∀ n : Nat, cutT (ws.map T.str) none (some (n : Int)) = (ws.take n).map .str := fun n => by rw [cutT_take, List.map_take]
  have cd : ∀ n : Nat, cutT (ws.map T.str) (some (n : Int)) none = (ws.drop n).map .str := fun n => by rw [cutT_drop, List.map_drop]
  have gt : ∀ n, ∀ w ∈ ws.take n, Gd w = true := fun n w hw => hg w (List.mem_of_mem_take hw)
  have gd : ∀ n, ∀ w ∈ ws.drop n, Gd w = true := fun n w hw => hg w (List.mem_of_mem_drop hw)
  have lt : ∀ n, (ws.take n).length ≤ 100 := fun n => by rw [List.length_take]; omega
  have ld : ∀ n, (ws.drop n).length ≤ 100 := fun n => by rw [List.length_drop]; omega
  have w2 := w20_gd
  have l2 : W20.length = 20 := rfl
  generalize W20 = WL at *
  generalize repS "1" 40 = r40 at *
  generalize repS "1" 41 = r41 at *
  generalize hL : ws.map T.str = L at *
  rw [e_l_changed, b_l_changed]
  simp (disch := first | assumption | rfl | exact mulOk_r (by omega) (by omega) | exact mulOk_l (by omega) (by omega) | exact divOk_s (by omega) (by omega) | omega | (simp only [List.length_cons, List.length_nil]; omega) | simp only [datT_tup, datT_lst, datT_int, datT_bl, datT_non, List.all_cons, List.all_nil, Bool.and_self, Bool.and_true]) [-bind_ite, -st_ite, -seq_ite, -out_ite, -lp_ite, -tryS_ite, -unb_ite, -toM_ite, -nox_ite, -drop_ite, cmp_eqTup, cmp_neTup, cmp_eqLst, cmp_neLst, mod_int, mul_int, div_int, shr_int, cmp_is, cmp_isnot, xisAny, List.lookup, m40, m41, sa, ad]
  refine next2_w g (by omega) (by omega) ?_
  intro v s1 v0 v1
  simp (disch := first | assumption | rfl | exact mulOk_r (by omega) (by omega) | exact mulOk_l (by omega) (by omega) | exact divOk_s (by omega) (by omega) | omega | (simp only [List.length_cons, List.length_nil]; omega) | simp only [datT_tup, datT_lst, datT_int, datT_bl, datT_non, List.all_cons, List.all_nil, Bool.and_self, Bool.and_true]) [-bind_ite, -st_ite, -seq_ite, -out_ite, -lp_ite, -tryS_ite, -unb_ite, -toM_ite, -nox_ite, -drop_ite, cmp_eqTup, cmp_neTup, cmp_eqLst, cmp_neLst, mod_int, mul_int, div_int, shr_int, cmp_is, cmp_isnot, xisAny, List.lookup, -len_lst, ln]
  refine next2_w (g' _) (by omega) (by omega) ?_
  intro a s2 a0 a1
  rw [List.set_set]
  obtain ⟨n, rfl⟩ := Int.eq_ofNat_of_zero_le a0
  obtain ⟨A, hA⟩ : ∃ A, A = ws.take n := ⟨_, rfl⟩
  obtain ⟨B, hB⟩ : ∃ B, B = ws.drop n := ⟨_, rfl⟩
  obtain ⟨A1, hA1⟩ : ∃ A, A = ws.take (n + 1) := ⟨_, rfl⟩
  obtain ⟨B1, hB1⟩ : ∃ B, B = ws.drop (n + 1) := ⟨_, rfl⟩
  have c1 : cutT L none (some (n : Int)) = A.map .str := by rw [hA]; exact ct n
  have c2 : cutT L (some (n : Int)) none = B.map .str := by rw [hB]; exact cd n
  have c3 : cutT L none (some ((n : Int) + 1)) = A1.map .str := by rw [hA1]; exact ct (n + 1)
  have c4 : cutT L (some ((n : Int) + 1)) none = B1.map .str := by rw [hB1]; exact cd (n + 1)
  have gA : ∀ w ∈ A, Gd w = true := by rw [hA]; exact gt _
  have gB : ∀ w ∈ B, Gd w = true := by rw [hB]; exact gd _
  have gA1 : ∀ w ∈ A1, Gd w = true := by rw [hA1]; exact gt _
  have gB1 : ∀ w ∈ B1, Gd w = true := by rw [hB1]; exact gd _
  have lA : A.length = n := by rw [hA, List.length_take]; omega
  have lB : B.length = ws.length - n := by rw [hB, List.length_drop]
  have lA1 : A1.length = n + 1 := by rw [hA1, List.length_take]; omega
  have lB1 : B1.length = ws.length - (n + 1) := by rw [hB1, List.length_drop]
  clear hA hB hA1 hB1 ct lt gt
  have ne : ∀ l : List Str, l.length ≠ 0 → l ≠ [] := fun l h e => h (by rw [e]; rfl)
  by_cases z0 : v = 0
  · subst z0
    have aa := fun m => adm A B1 m (by omega) (by omega)
    obtain ⟨Z, hZ⟩ : ∃ Z, Z = A ++ B1 := ⟨_, rfl⟩
    rw [← hZ] at aa
    simp (disch := first | assumption | rfl | exact mulOk_r (by omega) (by omega) | exact mulOk_l (by omega) (by omega) | exact divOk_s (by omega) (by omega) | omega | (simp only [List.length_cons, List.length_nil]; omega) | simp only [datT_tup, datT_lst, datT_int, datT_bl, datT_non, List.all_cons, List.all_nil, Bool.and_self, Bool.and_true]) [-bind_ite, -st_ite, -seq_ite, -out_ite, -lp_ite, -tryS_ite, -unb_ite, -toM_ite, -nox_ite, -drop_ite, cmp_eqTup, cmp_neTup, cmp_eqLst, cmp_neLst, mod_int, mul_int, div_int, shr_int, cmp_is, cmp_isnot, xisAny, List.lookup, c1, c4, aa]
    subst hZ
    refine k _ _ (ne _ ?_) ?_ ?_
    · rw [List.length_append]
      omega
    · rw [List.length_append]
      omega
    · intro w hw
      rcases List.mem_append.mp hw with q | q
      · exact gA w q
      · exact gB1 w q
  · by_cases z1 : v = 1
    · subst z1
      have aa := fun m => adm A1 B m (by omega) (by omega)
      obtain ⟨Z, hZ⟩ : ∃ Z, Z = A1 ++ B := ⟨_, rfl⟩
      rw [← hZ] at aa
      simp (disch := first | assumption | rfl | exact mulOk_r (by omega) (by omega) | exact mulOk_l (by omega) (by omega) | exact divOk_s (by omega) (by omega) | omega | (simp only [List.length_cons, List.length_nil]; omega) | simp only [datT_tup, datT_lst, datT_int, datT_bl, datT_non, List.all_cons, List.all_nil, Bool.and_self, Bool.and_true]) [-bind_ite, -st_ite, -seq_ite, -out_ite, -lp_ite, -tryS_ite, -unb_ite, -toM_ite, -nox_ite, -drop_ite, cmp_eqTup, cmp_neTup, cmp_eqLst, cmp_neLst, mod_int, mul_int, div_int, shr_int, cmp_is, cmp_isnot, xisAny, List.lookup, c3, c2, aa]
      subst hZ
      refine k _ _ (ne _ ?_) ?_ ?_
      · rw [List.length_append]
        omega
      · rw [List.length_append]
        omega
      · intro w hw
        rcases List.mem_append.mp hw with q | q
        · exact gA1 w q
        · exact gB w q
    · simp (disch := first | assumption | rfl | exact mulOk_r (by omega) (by omega) | exact mulOk_l (by omega) (by omega) | exact divOk_s (by omega) (by omega) | omega | (simp only [List.length_cons, List.length_nil]; omega) | simp only [datT_tup, datT_lst, datT_int, datT_bl, datT_non, List.all_cons, List.all_nil, Bool.and_self, Bool.and_true]) [-bind_ite, -st_ite, -seq_ite, -out_ite, -lp_ite, -tryS_ite, -unb_ite, -toM_ite, -nox_ite, -drop_ite, cmp_eqTup, cmp_neTup, cmp_eqLst, cmp_neLst, mod_int, mul_int, div_int, shr_int, cmp_is, cmp_isnot, xisAny, List.lookup, z0, z1, c1]
      refine next2_w (g' _) (by omega) (by omega) ?_
      intro b s3 b0 b1
      rw [List.set_set]
      simp (disch := first | assumption | rfl | exact mulOk_r (by omega) (by omega) | exact mulOk_l (by omega) (by omega) | exact divOk_s (by omega) (by omega) | omega | (simp only [List.length_cons, List.length_nil]; omega) | simp only [datT_tup, datT_lst, datT_int, datT_bl, datT_non, List.all_cons, List.all_nil, Bool.and_self, Bool.and_true]) [-bind_ite, -st_ite, -seq_ite, -out_ite, -lp_ite, -tryS_ite, -unb_ite, -toM_ite, -nox_ite, -drop_ite, cmp_eqTup, cmp_neTup, cmp_eqLst, cmp_neLst, mod_int, mul_int, div_int, shr_int, cmp_is, cmp_isnot, xisAny, List.lookup]
      refine atM_w b0 (by omega) ?_
      intro y hy
      have gy := w2 y hy
      obtain ⟨C, hC⟩ : ∃ C, C = A ++ [y] := ⟨_, rfl⟩
      have lC : C.length = n + 1 := by rw [hC, List.length_append, lA]; rfl
      have gC : ∀ w ∈ C, Gd w = true := by
        intro w hw
        rw [hC] at hw
        rcases List.mem_append.mp hw with q | q
        · exact gA w q
        · rw [List.mem_singleton.mp q]
          exact gy
      have a1 : ∀ m, binT .Add (.lst (A.map .str)) (.lst [.str y]) m = .ok (.lst (C.map .str)) m := fun m => by
        rw [hC]
        exact adm A [y] m (by omega) (by simp)
      obtain ⟨q, hq⟩ := Int.eq_ofNat_of_zero_le (show 0 ≤ (n : Int) + v % 2 by omega)
      obtain ⟨D, hD⟩ : ∃ D, D = ws.drop q := ⟨_, rfl⟩
      have c5 : cutT L (some ((n : Int) + v % 2)) none = D.map .str := by rw [hq, hD]; exact cd q
      have gD : ∀ w ∈ D, Gd w = true := by rw [hD]; exact gd _
      have lD : D.length ≤ 5 := by rw [hD, List.length_drop]; omega
      obtain ⟨Z, hZ⟩ : ∃ Z, Z = C ++ D := ⟨_, rfl⟩
      have a2 : ∀ m, binT .Add (.lst (C.map .str)) (.lst (D.map .str)) m = .ok (.lst (Z.map .str)) m := fun m => by
        rw [hZ]
        exact adm C D m (by omega) (by omega)
      clear hD hC
      simp (disch := first | assumption | rfl | exact mulOk_r (by omega) (by omega) | exact mulOk_l (by omega) (by omega) | exact divOk_s (by omega) (by omega) | omega | (simp only [List.length_cons, List.length_nil]; omega) | simp only [datT_tup, datT_lst, datT_int, datT_bl, datT_non, List.all_cons, List.all_nil, Bool.and_self, Bool.and_true]) [-bind_ite, -st_ite, -seq_ite, -out_ite, -lp_ite, -tryS_ite, -unb_ite, -toM_ite, -nox_ite, -drop_ite, cmp_eqTup, cmp_neTup, cmp_eqLst, cmp_neLst, mod_int, mul_int, div_int, shr_int, cmp_is, cmp_isnot, xisAny, List.lookup, a1, c5, a2]
      subst hZ
      refine k _ _ (ne _ ?_) ?_ ?_
      · rw [List.length_append]
        omega
      · rw [List.length_append]
        omega
      · intro w hw
        rcases List.mem_append.mp hw with q | q
        · exact gC w q
        · exact gD w q
/-! the words of a row -/
theorem num_gd {w : Str} (h : numB w = true) : Gd w = true := by
  have hl := (num_int h).2
  have hf : (figS w).cps.toList.all (fun c => memS c DG) = true := by
    unfold numB figB at h
    rw [Bool.and_eq_true, Bool.and_eq_true, Bool.and_eq_true] at h
    exact h.1.2.2
  have hc : ∀ c ∈ w.cps.toList, c = 45 ∨ (48 ≤ c ∧ c ≤ 57) := fun c hc => by
    have hf := List.all_eq_true.mp hf
    unfold figS at hf
    have sd := starts_dash w
    by_cases z : Txt.startswith w "-" = true
    · rw [if_pos z] at hf
      rw [z] at sd
      cases q : w.cps.toList with
      | nil => rw [q] at hc; simp at hc
      | cons a r =>
        rw [q] at hc sd hf
        rcases List.mem_cons.mp hc with e | e
        · left
          have := of_decide_eq_true sd.symm
          simp at this
          omega
        · right
          exact (dg_mem c).mp (hf c e)
    · rw [if_neg z] at hf
      exact .inr ((dg_mem c).mp (hf c hc))
  unfold Gd
  rw [Bool.and_eq_true, List.all_eq_true, decide_eq_true_eq]
  refine ⟨fun c h => ?_, by omega⟩
  have := hc c h
  simp
  omega
theorem hold_gd {w : Str} (h : holdB w = true) : Gd w = true := by
  unfold holdB at h
  rw [Bool.and_eq_true, Bool.and_eq_true, decide_eq_true_eq, decide_eq_true_eq, List.all_eq_true] at h
  unfold Gd
  rw [Bool.and_eq_true, List.all_eq_true, decide_eq_true_eq]
  refine ⟨fun c hc => ?_, by omega⟩
  have q := h.2.2 c hc
  unfold letB memS at q
  have q := of_decide_eq_true q
  have key : ∀ c ∈ AZ.cps.toList, 97 ≤ c ∧ c ≤ 122 := by decide +kernel
  have := key c q
  simp
  omega
theorem IsRow.pt {ps : List T} (r : IsRow ps) : ∀ t ∈ ps, Pt t := by
  cases r with
  | lease v0 b0 hh o =>
    intro t ht
    simp only [List.mem_cons, List.not_mem_nil, or_false] at ht
    rcases ht with rfl | rfl | rfl | rfl | rfl
    · exact .str _
    · exact .int _ v0.1 v0.2
    · exact .str _
    · rcases o with rfl | ⟨i, rfl, i0⟩
      · exact .non
      · exact .int _ i0.1 i0.2
    · exact .int _ b0.1 b0.2
  | ask hw v0 b0 hh =>
    intro t ht
    simp only [List.mem_cons, List.not_mem_nil, or_false] at ht
    rcases ht with rfl | rfl | rfl | rfl
    · exact .str _
    · exact .int _ v0.1 v0.2
    · exact .str _
    · exact .int _ b0.1 b0.2
  | bare hw v0 hh =>
    intro t ht
    simp only [List.mem_cons, List.not_mem_nil, or_false] at ht
    rcases ht with rfl | rfl | rfl
    · exact .str _
    · exact .int _ v0.1 v0.2
    · exact .str _
theorem ll_gd : ∀ w ∈ (("any" : Str) :: LL), Gd w = true := by decide +kernel
theorem IsRow.gd {ps : List T} (r : IsRow ps) : ∀ w ∈ ps.map pS, Gd w = true := by
  have ig : ∀ v, bd v → Gd (iS v) = true := fun v h => num_gd (bd_num h).1
  have lg : ∀ w, w ∈ ASKs ∨ w ∈ BAREs → Gd w = true := fun w h => ll_gd w (by
    simp only [LL, ASKs, BAREs, List.mem_cons, List.not_mem_nil, or_false] at h ⊢
    rcases h with (h | h | h) | (h | h | h) <;> simp [h])
  cases r with
  | lease v0 b0 hh o =>
    intro t ht
    simp only [List.map_cons, List.map_nil, List.mem_cons, List.not_mem_nil, or_false] at ht
    rcases ht with rfl | rfl | rfl | rfl | rfl
    · exact ll_gd _ (by decide +kernel)
    · exact ig _ v0
    · exact hold_gd hh
    · rcases o with rfl | ⟨i, rfl, i0⟩
      · exact ll_gd _ (by decide +kernel)
      · exact ig _ i0
    · exact ig _ b0
  | ask hw v0 b0 hh =>
    intro t ht
    simp only [List.map_cons, List.map_nil, List.mem_cons, List.not_mem_nil, or_false] at ht
    rcases ht with rfl | rfl | rfl | rfl
    · exact lg _ (.inl hw)
    · exact ig _ v0
    · exact hold_gd hh
    · exact ig _ b0
  | bare hw v0 hh =>
    intro t ht
    simp only [List.map_cons, List.map_nil, List.mem_cons, List.not_mem_nil, or_false] at ht
    rcases ht with rfl | rfl | rfl
    · exact lg _ (.inr hw)
    · exact ig _ v0
    · exact hold_gd hh
theorem IsRow.len {ps : List T} (r : IsRow ps) : 3 ≤ ps.length ∧ ps.length ≤ 5 := by
  cases r <;> simp
theorem IsRow.dat {ps : List T} (r : IsRow ps) : ps.all (datT 63) = true := by
  refine List.all_eq_true.mpr fun t ht => ?_
  cases q : t with
  | str a =>
    refine strOk_of (fun c hc => ?_) 63
    have := (Gd.asc (r.gd a (List.mem_map.mpr ⟨t, ht, by rw [q]; rfl⟩))) c hc
    omega
  | int v => rfl
  | non => rfl
  | _ => have := r.pt t ht; rw [q] at this; cases this
theorem truths_ok {ps : List T} (h : ∀ t ∈ ps, Pt t) (m : Sto) : f_l_truths [.tup ps] m = .ok (.bl false) m := by
  have cm : ∀ m, compL (turnC (.one 1) [.isi (.var 1) .bool] (.var 1) [some (.tup ps), none] ⟨ps, none⟩) ps [] m = .ok (.lst []) m := fun m => by
    refine (compL_fm (fun _ => none) ?_).trans ?_
    · intro t ht
      rw [turnC_one]
      cases h t ht with
      | str a => simp (disch := first | assumption | rfl | exact mulOk_r (by omega) (by omega) | exact mulOk_l (by omega) (by omega) | exact divOk_s (by omega) (by omega) | omega | (simp only [List.length_cons, List.length_nil]; omega) | simp only [datT_tup, datT_lst, datT_int, datT_bl, datT_non, List.all_cons, List.all_nil, Bool.and_self, Bool.and_true]) [cmp_eqTup, cmp_neTup, cmp_eqLst, cmp_neLst, mod_int, mul_int, div_int, shr_int, cmp_is, cmp_isnot, xisAny, List.lookup]
      | int v _ _ => simp (disch := first | assumption | rfl | exact mulOk_r (by omega) (by omega) | exact mulOk_l (by omega) (by omega) | exact divOk_s (by omega) (by omega) | omega | (simp only [List.length_cons, List.length_nil]; omega) | simp only [datT_tup, datT_lst, datT_int, datT_bl, datT_non, List.all_cons, List.all_nil, Bool.and_self, Bool.and_true]) [cmp_eqTup, cmp_neTup, cmp_eqLst, cmp_neLst, mod_int, mul_int, div_int, shr_int, cmp_is, cmp_isnot, xisAny, List.lookup]
      | non => simp (disch := first | assumption | rfl | exact mulOk_r (by omega) (by omega) | exact mulOk_l (by omega) (by omega) | exact divOk_s (by omega) (by omega) | omega | (simp only [List.length_cons, List.length_nil]; omega) | simp only [datT_tup, datT_lst, datT_int, datT_bl, datT_non, List.all_cons, List.all_nil, Bool.and_self, Bool.and_true]) [cmp_eqTup, cmp_neTup, cmp_eqLst, cmp_neLst, mod_int, mul_int, div_int, shr_int, cmp_is, cmp_isnot, xisAny, List.lookup]
    · congr 2
      simp
  have ne : ∀ m, cmpT .NotEq (.lst []) (.lst []) m = .ok (.bl false) m := fun m => cmp_neLst m rfl rfl
  rw [e_l_truths, b_l_truths]
  simp (disch := first | assumption | rfl | exact mulOk_r (by omega) (by omega) | exact mulOk_l (by omega) (by omega) | exact divOk_s (by omega) (by omega) | omega | (simp only [List.length_cons, List.length_nil]; omega) | simp only [datT_tup, datT_lst, datT_int, datT_bl, datT_non, List.all_cons, List.all_nil, Bool.and_self, Bool.and_true]) [cmp_eqTup, cmp_neTup, cmp_eqLst, cmp_neLst, mod_int, mul_int, div_int, shr_int, cmp_is, cmp_isnot, xisAny, List.lookup, cm, ne]
theorem eqvTs_refl {L : List T} (h : L.all (datT 63) = true) : eqvTs L L = true := by
  have := eqvT_refl 64 (.lst L) h
  rwa [eqvT_lst] at this
/-! odd texts -/
def upS (w : Str) : Str := ⟨w.cps.map PyProof.Rows.up1⟩
theorem up_ll : ∀ x ∈ LL, upS x ∉ LL := by decide +kernel
theorem up1_gd : ∀ c, c < 128 → c ≠ 32 → PyProof.Rows.up1 c < 128 ∧ PyProof.Rows.up1 c ≠ 32 := by decide +kernel
theorem up_gd {w : Str} (h : Gd w = true) : Gd (upS w) = true := by
  have h1 := Gd.asc h
  have h2 := Gd.bl h
  have h3 := Gd.sm h
  unfold Gd
  rw [Bool.and_eq_true, List.all_eq_true, decide_eq_true_eq]
  refine ⟨fun c hc => ?_, ?_⟩
  · have : c ∈ w.cps.toList.map PyProof.Rows.up1 := by
      have : (upS w).cps.toList = w.cps.toList.map PyProof.Rows.up1 := by unfold upS; simp
      rw [← this]
      exact hc
    obtain ⟨d, hd, rfl⟩ := List.mem_map.mp this
    have := up1_gd d (h1 d hd) (fun e => h2 (e ▸ hd))
    simp
    exact this
  · show (w.cps.map PyProof.Rows.up1).size ≤ 2000
    rw [Array.size_map]
    exact h3
theorem joinL_map (f : Nat → Nat) (h : f 32 = 32) : ∀ ls : List (List Nat), (TL.joinL [32] ls).map f = TL.joinL [32] (ls.map (·.map f))
  | [] => rfl
  | [p] => rfl
  | p :: q :: r => by
    have := joinL_map f h (q :: r)
    show (p ++ ([32] ++ TL.joinL [32] (q :: r))).map f = p.map f ++ ([32] ++ TL.joinL [32] ((q :: r).map (·.map f)))
    rw [← this]
    simp [h]
theorem tl_inj {a b : Str} (h : a.cps.toList = b.cps.toList) : a = b := by
  obtain ⟨⟨x⟩⟩ := a
  obtain ⟨⟨y⟩⟩ := b
  have : x = y := h
  rw [this]
theorem join_asc {ws : List Str} (h : ∀ w ∈ ws, Gd w = true) : ∀ c ∈ (Txt.join " " ws).cps.toList, c < 128 := by
  rw [join_tl]
  have key : ∀ ls : List (List Nat), (∀ l ∈ ls, ∀ c ∈ l, c < 128) → ∀ c ∈ TL.joinL [32] ls, c < 128 := by
    intro ls
    induction ls with
    | nil => intro _ c hc; simp [TL.joinL] at hc
    | cons p r ih =>
      intro hl c hc
      cases r with
      | nil => exact hl p List.mem_cons_self c hc
      | cons q r =>
        have hc : c ∈ p ++ ([32] ++ TL.joinL [32] (q :: r)) := hc
        rcases List.mem_append.mp hc with e | e
        · exact hl p List.mem_cons_self c e
        · rcases List.mem_append.mp e with e | e
          · rw [List.mem_singleton.mp e]
            decide
          · exact ih (fun l hl2 => hl l (List.mem_cons_of_mem _ hl2)) c e
  refine key _ fun l hl c hc => ?_
  obtain ⟨w, hw, rfl⟩ := List.mem_map.mp hl
  exact Gd.asc (h w hw) c hc
theorem upper_join {ws : List Str} (h : ∀ w ∈ ws, Gd w = true) : Txt.upper (Txt.join " " ws) = Txt.join " " (ws.map upS) := by
  rw [PyProof.Rows.upper_ascii (join_asc h)]
  refine tl_inj ?_
  show ((Txt.join " " ws).cps.map PyProof.Rows.up1).toList = _
  rw [Array.toList_map, join_tl, join_tl, joinL_map _ (by decide), List.map_map, List.map_map]
  congr 1
  refine List.map_congr_left fun w _ => ?_
  show w.cps.toList.map PyProof.Rows.up1 = (w.cps.map PyProof.Rows.up1).toList
  rw [Array.toList_map]
theorem bl2 : (" " : Str).cps.toList = [32] := by decide +kernel
theorem join_pre {ws : List Str} (h : ws ≠ []) : " " ++ Txt.join " " ws = Txt.join " " ("" :: ws) := by
  refine tl_inj ?_
  rw [app_tl, join_tl, join_tl, bl2]
  cases ws with
  | nil => exact absurd rfl h
  | cons a r => rfl
theorem joinL_end (x : List Nat) : ∀ (ls : List (List Nat)), ls ≠ [] → TL.joinL [32] (ls ++ [x]) = TL.joinL [32] ls ++ ([32] ++ x)
  | [p], _ => rfl
  | p :: q :: r, _ => by
    have := joinL_end x (q :: r) (by simp)
    show p ++ ([32] ++ TL.joinL [32] (q :: r ++ [x])) = (p ++ ([32] ++ TL.joinL [32] (q :: r))) ++ ([32] ++ x)
    rw [this]
    simp
theorem join_post {ws : List Str} (h : ws ≠ []) : Txt.join " " ws ++ " " = Txt.join " " (ws ++ [("" : Str)]) := by
  refine tl_inj ?_
  rw [app_tl, join_tl, join_tl, bl2, List.map_append]
  have := joinL_end [] (ws.map fun w => w.cps.toList) (by simpa using h)
  rw [show ([("" : Str)].map fun w : Str => w.cps.toList) = [[]] from rfl, this]
  rfl
theorem joinL_last (x y : List Nat) : ∀ (ls : List (List Nat)), TL.joinL [32] (ls ++ [x ++ y]) = TL.joinL [32] (ls ++ [x]) ++ y
  | [] => rfl
  | [p] => by
    show p ++ ([32] ++ (x ++ y)) = (p ++ ([32] ++ x)) ++ y
    simp
  | p :: q :: r => by
    have := joinL_last x y (q :: r)
    show p ++ ([32] ++ TL.joinL [32] (q :: r ++ [x ++ y])) = (p ++ ([32] ++ TL.joinL [32] (q :: r ++ [x]))) ++ y
    rw [this]
    simp
theorem join_last (ws : List Str) (x y : Str) : Txt.join " " (ws ++ [x]) ++ y = Txt.join " " (ws ++ [x ++ y]) := by
  refine tl_inj ?_
  rw [app_tl, join_tl, join_tl, List.map_append, List.map_append]
  show _ = TL.joinL [32] (_ ++ [(x ++ y).cps.toList])
  rw [app_tl, joinL_last]
  rfl
theorem told_none {ws : List Str} (h : Wds ws) (hn : rowV ws = none) {m : Sto} {K : PR T} (k : ∀ m', Kp m m' → K.ok (.tup [.non, .int 0]) m') : W (f_l_told [.str (Txt.join " " ws)] m) K := by
  refine told_w h fun m' qq => ?_
  rw [hn]
  exact k m' qq
theorem nl_tl : ("\n" : Str).cps.toList = [10] := by decide +kernel
theorem nl_num (w : Str) : numB (w ++ "\n") = false := by
  cases q : numB (w ++ "\n") with
  | false => rfl
  | true =>
    exfalso
    unfold numB figB at q
    rw [Bool.and_eq_true, Bool.and_eq_true, Bool.and_eq_true, List.all_eq_true] at q
    have hf := q.1.2.2
    have m10 : 10 ∈ (figS (w ++ "\n")).cps.toList := by
      have e : (w ++ "\n").cps.toList = w.cps.toList ++ [10] := by rw [app_tl, nl_tl]
      unfold figS
      split
      case isTrue z =>
        rw [starts_dash, e] at z
        show 10 ∈ (w ++ "\n").cps.toList.tail
        rw [e]
        cases p : w.cps.toList with
        | nil => rw [p] at z; simp at z
        | cons a r => simp
      case isFalse z =>
        rw [e]
        simp
    have := (dg_mem 10).mp (hf 10 m10)
    omega
theorem nl_hold (w : Str) : holdB (w ++ "\n") = false := by
  cases q : holdB (w ++ "\n") with
  | false => rfl
  | true =>
    exfalso
    have g := hold_gd q
    unfold holdB at q
    rw [Bool.and_eq_true, Bool.and_eq_true, List.all_eq_true] at q
    have := q.2.2 10 (by rw [app_tl, nl_tl]; simp)
    revert this
    decide +kernel
theorem nl_gd {w : Str} (h : Gd w = true) (hl : w.length ≤ 1999) : Gd (w ++ "\n") = true := by
  have h1 := Gd.asc h
  have h2 := Gd.bl h
  have e : (w ++ "\n").cps.toList = w.cps.toList ++ [10] := by rw [app_tl, nl_tl]
  have el : (w ++ "\n").length = (w ++ "\n").cps.toList.length := rfl
  have el2 : w.length = w.cps.toList.length := rfl
  unfold Gd
  rw [Bool.and_eq_true, List.all_eq_true, decide_eq_true_eq, el, e]
  refine ⟨fun c hc => ?_, by
    have hl : w.cps.size ≤ 1999 := hl
    simp
    omega⟩
  rcases List.mem_append.mp hc with q | q
  · have := h1 c q
    have : c ≠ 32 := fun e => h2 (e ▸ q)
    simp
    omega
  · rw [List.mem_singleton.mp q]
    decide
theorem rv_l (y z h n : Str) : rowV ["lease", y, z, h, n] = if numB y = true then (if holdB z = true then (if h = ("any" : Str) ∨ numB h = true then (if numB n = true then some (.tup [.str "lease", .int (numV y), .str z, if h = ("any" : Str) then .non else .int (numV h), .int (numV n)]) else none) else none) else none) else none := rfl
theorem rv_a {x : Str} (hx : x ∈ ASKs) (y z n : Str) : rowV [x, y, z, n] = if numB y = true then (if holdB z = true then (if numB n = true then some (.tup [.str x, .int (numV y), .str z, .int (numV n)]) else none) else none) else none := by
  unfold ASKs at hx
  simp only [List.mem_cons, List.not_mem_nil, or_false] at hx
  rcases hx with rfl | rfl | rfl <;> rfl
theorem IsRow.spoilt {ps : List T} (r : IsRow ps) : ∃ (ws : List Str) (x : Str), ps.map pS = ws ++ [x] ∧ rowV (ws ++ [x ++ "\n"]) = none := by
  cases r with
  | @lease v b h ho v0 b0 hh o =>
    refine ⟨["lease", iS v, h, pS ho], iS b, rfl, ?_⟩
    show rowV ["lease", iS v, h, pS ho, iS b ++ "\n"] = none
    rw [rv_l, nl_num]
    simp
  | @ask w v b h hw v0 b0 hh =>
    refine ⟨[w, iS v, h], iS b, rfl, ?_⟩
    show rowV [w, iS v, h, iS b ++ "\n"] = none
    rw [rv_a hw, nl_num]
    simp
  | @bare w v h hw v0 hh =>
    refine ⟨[w, iS v], h, rfl, ?_⟩
    refine no2 fun x hx => ?_
    have : x = h ++ "\n" := by
      simp at hx
      exact hx.symm
    rw [this]
    exact nl_hold h
theorem lw {w : Str} (h : w ∈ ASKs ∨ w ∈ BAREs) : w ∈ LL := by
  simp only [LL, ASKs, BAREs, List.mem_cons, List.not_mem_nil, or_false] at h ⊢
  rcases h with (h | h | h) | (h | h | h) <;> simp [h]
theorem IsRow.hd {ps : List T} (r : IsRow ps) : ∃ x l, ps.map pS = x :: l ∧ x ∈ LL := by
  cases r with
  | lease v0 b0 hh o => exact ⟨_, _, rfl, by decide +kernel⟩
  | @ask w v b h hw v0 b0 hh => exact ⟨w, _, rfl, lw (.inl hw)⟩
  | @bare w v h hw v0 hh => exact ⟨w, _, rfl, lw (.inr hw)⟩
theorem no_first {x : Str} {l : List Str} (h : x ∉ LL) : rowV (x :: l) = none := no0 (ws := x :: l) fun y hy => by
  have : y = x := by
    simp at hy
    exact hy.symm
  rw [this]
  exact h
theorem IsRow.sm {ps : List T} (r : IsRow ps) : ∀ w ∈ ps.map pS, w.length ≤ 1999 := by
  intro w hw
  obtain ⟨t, ht, rfl⟩ := List.mem_map.mp hw
  cases r.pt t ht with
  | int v h0 h1 => have := iS_len h0 h1; show (iS v).length ≤ 1999; omega
  | non => decide +kernel
  | str a =>
    show a.length ≤ 1999
    have hb : ∀ h, holdB h = true → h.length ≤ 1999 := fun h q => by
      unfold holdB at q
      rw [Bool.and_eq_true, Bool.and_eq_true, decide_eq_true_eq, decide_eq_true_eq] at q
      omega
    have lb : ∀ w ∈ LL, w.length ≤ 1999 := by decide +kernel
    cases r with
    | lease v0 b0 hh o =>
      simp only [List.mem_cons, List.not_mem_nil, or_false, T.str.injEq, reduceCtorEq, false_or] at ht
      rcases ht with rfl | rfl | ht
      · exact lb _ (by decide +kernel)
      · exact hb _ hh
      · rcases o with rfl | ⟨i, rfl, _⟩ <;> cases ht
    | ask hq v0 b0 hh =>
      simp only [List.mem_cons, List.not_mem_nil, or_false, T.str.injEq, reduceCtorEq, false_or] at ht
      rcases ht with rfl | rfl
      · exact lb _ (lw (.inl hq))
      · exact hb _ hh
    | bare hq v0 hh =>
      simp only [List.mem_cons, List.not_mem_nil, or_false, T.str.injEq, reduceCtorEq, false_or] at ht
      rcases ht with rfl | rfl
      · exact lb _ (lw (.inr hq))
      · exact hb _ hh
theorem odd_w {ps : List T} (r : IsRow ps) {t : T} (ht : t ∈ [T.str (" " ++ Txt.join " " (ps.map pS)), .str (Txt.join " " (ps.map pS) ++ " "), .str (Txt.join " " (ps.map pS) ++ "\n"), .str (Txt.upper (Txt.join " " (ps.map pS))), .non, .int 5, .lst [.str (Txt.join " " (ps.map pS))], .tup ps, .str ""]) {m : Sto} {K : PR T} (k : ∀ m', Kp m m' → K.ok (.tup [.non, .int 0]) m') : W (f_l_told [t] m) K := by
  have g := r.gd
  have l := r.len
  have ll : (ps.map pS).length = ps.length := List.length_map _
  have ne : ps.map pS ≠ [] := fun e => by rw [e] at ll; simp at ll; omega
  have em : (" " : Str) ≠ "" := by decide +kernel
  have ge : Gd "" = true := by decide +kernel
  simp only [List.mem_cons, List.not_mem_nil, or_false] at ht
  rcases ht with rfl | rfl | rfl | rfl | rfl | rfl | rfl | rfl | rfl
  · rw [join_pre ne]
    refine told_none (wds_of (by simp) (by simp; omega) ?_) (no_first (by decide +kernel)) k
    intro w hw
    rcases List.mem_cons.mp hw with rfl | q
    · exact ge
    · exact g w q
  · rw [join_post ne]
    refine told_none (wds_of (by simp) (by simp; omega) ?_) ?_ k
    · intro w hw
      rcases List.mem_append.mp hw with q | q
      · exact g w q
      · rw [List.mem_singleton.mp q]
        exact ge
    · cases r with
      | @lease v b h ho v0 b0 hh o => exact row_l (r := [iS v, h, pS ho, iS b, ""]) (by simp)
      | @ask w v b h hw v0 b0 hh => exact row_a (x := w) (r := [iS v, h, iS b, ""]) (by simpa [ASKs] using hw) (by simp)
      | @bare w v h hw v0 hh => exact row_b (x := w) (r := [iS v, h, ""]) (by simpa [BAREs] using hw) (by simp)
  · obtain ⟨ws, x, e, hn⟩ := r.spoilt
    have sm := r.sm
    rw [e] at g ne ll sm ⊢
    rw [join_last]
    refine told_none (wds_of (by simp) (by simp at ll ⊢; omega) ?_) hn k
    intro w hw
    rcases List.mem_append.mp hw with q | q
    · exact g w (List.mem_append_left _ q)
    · rw [List.mem_singleton.mp q]
      exact nl_gd (g x (by simp)) (sm x (by simp))
  · rw [upper_join g]
    obtain ⟨x, l2, e, hx⟩ := r.hd
    refine told_none (wds_of (by simpa using ne) (by simp at ll ⊢; omega) ?_) ?_ k
    · intro w hw
      obtain ⟨y, hy, rfl⟩ := List.mem_map.mp hw
      exact up_gd (g y hy)
    · rw [e, List.map_cons]
      exact no_first (up_ll x hx)
  · exact told_no (fun _ => rfl) k
  · exact told_no (fun _ => rfl) k
  · exact told_no (fun _ => rfl) k
  · exact told_no (fun _ => rfl) k
  · have : ("" : Str) = Txt.join " " [""] := by decide +kernel
    rw [this]
    exact told_none (wds_of (by simp) (by decide) (by decide +kernel)) (no_first (by decide +kernel)) k
theorem rowV_dat {ws : List Str} {r : T} (h : rowV ws = some r) (g : ∀ w ∈ ws, Gd w = true) : ∃ xs, r = .tup xs ∧ xs.all (datT 62) = true := by
  have sd : ∀ (i : Nat) (w : Str), ws[i]? = some w → datT 62 (.str w) = true := fun i w hw => strOk_of (fun c hc => by have := Gd.asc (g w (List.mem_of_getElem? hw)) c hc; omega) 62
  have di : ∀ v, datT 62 (.int v) = true := fun _ => rfl
  have dn : datT 62 .non = true := rfl
  unfold rowV rowB rowL rowA at h
  repeat' split at h
  all_goals first
    | (obtain rfl := Option.some.inj h
       refine ⟨_, rfl, ?_⟩
       simp only [List.all_cons, List.all_nil, Bool.and_true, Bool.and_eq_true, di, dn, true_and, and_true]
       exact ⟨sd 0 _ (by assumption), sd 2 _ (by assumption)⟩)
    | cases h
theorem law_turn {c : Int} {a0 a1 a2 a3 a4 a5 a6 a7 a8 : Option T} {ys : List T} {m : Sto} {K : PS}
    (k : ∀ m' a1 a2 a3 a4 a5 a6 a7 a8, K.nx [a0, a1, a2, a3, a4, a5, a6, a7, a8] m') :
    WS (turnS (.one 1) b_law_1 ⟨ys, none⟩ (.int c) [a0, a1, a2, a3, a4, a5, a6, a7, a8] m) K := by
  rw [turnS_one]
  unfold b_law_1
  simp (disch := first | assumption | rfl | exact mulOk_r (by omega) (by omega) | exact mulOk_l (by omega) (by omega) | exact divOk_s (by omega) (by omega) | omega | (simp only [List.length_cons, List.length_nil]; omega) | simp only [datT_tup, datT_lst, datT_int, datT_bl, datT_non, List.all_cons, List.all_nil, Bool.and_self, Bool.and_true]) [-bind_ite, -st_ite, -seq_ite, -out_ite, -lp_ite, -tryS_ite, -unb_ite, -toM_ite, -nox_ite, -drop_ite, cmp_eqTup, cmp_neTup, cmp_eqLst, cmp_neLst, mod_int, mul_int, div_int, shr_int, cmp_is, cmp_isnot, xisAny, List.lookup]
  refine begin_w ?_
  intro s0
  simp (disch := first | assumption | rfl | exact mulOk_r (by omega) (by omega) | exact mulOk_l (by omega) (by omega) | exact divOk_s (by omega) (by omega) | omega | (simp only [List.length_cons, List.length_nil]; omega) | simp only [datT_tup, datT_lst, datT_int, datT_bl, datT_non, List.all_cons, List.all_nil, Bool.and_self, Bool.and_true]) [-bind_ite, -st_ite, -seq_ite, -out_ite, -lp_ite, -tryS_ite, -unb_ite, -toM_ite, -nox_ite, -drop_ite, cmp_eqTup, cmp_neTup, cmp_eqLst, cmp_neLst, mod_int, mul_int, div_int, shr_int, cmp_is, cmp_isnot, xisAny, List.lookup]
  refine row_w (s := s0) (get_end _ _) ?_
  intro ps s1 r
  rw [set_end]
  have pt := r.pt
  have gd := r.gd
  have ln := r.len
  have bk := r.back
  have ll : (ps.map pS).length = ps.length := List.length_map _
  have wo := fun m => words_ok pt m
  have so := fun m => show_row_ok pt (by omega) (fun w hw => Gd.sm (gd w hw)) m
  have tr := fun m => truths_ok pt m
  have l1 := join_len (ps.map pS)
  have l2 := sum_le fun w hw => Gd.sm (gd w hw)
  have l3 : (" " : Str).length = 1 := rfl
  have jo := fun m => sm_join (a := " ") (ys := ps.map pS) m ⟨by rw [l3]; omega, by omega⟩
  have ne : ∀ m, cmpT .NotEq (.tup ps) (.tup ps) m = .ok (.bl false) m := fun m => by
    rw [cmp_neTup m r.dat r.dat, eqvTs_refl r.dat]
    rfl
  have ne0 : ps.map pS ≠ [] := fun e => by rw [e] at ll; simp at ll; omega
  have wd : Wds (ps.map pS) := wds_of ne0 (by omega) gd
  have od := fun {t} ht {m K} k => @odd_w ps r t ht m K k
  have p1 : ∀ m, binT .Add (.str " ") (.str (Txt.join " " (ps.map pS))) m = .ok (.str (" " ++ Txt.join " " (ps.map pS))) m := fun m => add_str m (by rw [l3]; omega)
  have p2 : ∀ m, binT .Add (.str (Txt.join " " (ps.map pS))) (.str " ") m = .ok (.str (Txt.join " " (ps.map pS) ++ " ")) m := fun m => add_str m (by rw [l3]; omega)
  have l4 : ("\n" : Str).length = 1 := by decide +kernel
  have p3 : ∀ m, binT .Add (.str (Txt.join " " (ps.map pS))) (.str "\n") m = .ok (.str (Txt.join " " (ps.map pS) ++ "\n")) m := fun m => add_str m (by rw [l4]; omega)
  have ul : (Txt.upper (Txt.join " " (ps.map pS))).length = (Txt.join " " (ps.map pS)).length := by
    rw [PyProof.Rows.upper_ascii (join_asc gd)]
    show ((Txt.join " " (ps.map pS)).cps.map PyProof.Rows.up1).size = _
    rw [Array.size_map]
    rfl
  have p4 : ∀ m, bmT .upper (.str (Txt.join " " (ps.map pS))) [] m = .ok (.str (Txt.upper (Txt.join " " (ps.map pS)))) m := fun m => bm_upper m ⟨by omega, by omega⟩
  have rd := @read_row_w (Txt.join " " (ps.map pS)) (ps.map pS) wd.split (by omega) wd.ok (by omega)
  rw [bk] at rd
  have ch := @changed_w
  have dlst : ∀ xs : List T, xs = xs := fun _ => rfl
  generalize hJ : Txt.join " " (ps.map pS) = J at *
  generalize hU : Txt.upper J = U at *
  generalize hW : ps.map pS = ws at *
  clear hJ hU hW
  simp (disch := first | assumption | rfl | exact mulOk_r (by omega) (by omega) | exact mulOk_l (by omega) (by omega) | exact divOk_s (by omega) (by omega) | omega | (simp only [List.length_cons, List.length_nil]; omega) | simp only [datT_tup, datT_lst, datT_int, datT_bl, datT_non, List.all_cons, List.all_nil, Bool.and_self, Bool.and_true]) [-bind_ite, -st_ite, -seq_ite, -out_ite, -lp_ite, -tryS_ite, -unb_ite, -toM_ite, -nox_ite, -drop_ite, cmp_eqTup, cmp_neTup, cmp_eqLst, cmp_neLst, mod_int, mul_int, div_int, shr_int, cmp_is, cmp_isnot, xisAny, List.lookup, wo, jo, so]
  refine rd (fun r0 hr m' qq => ?_) (fun hr => by cases hr)
  obtain rfl := Option.some.inj hr
  have g : m'[m.length]? = some (cel s1) := qq _ _ (get_end _ _)
  clear qq rd hr jo wo so
  generalize m.length = h at *
  simp (disch := first | assumption | rfl | exact mulOk_r (by omega) (by omega) | exact mulOk_l (by omega) (by omega) | exact divOk_s (by omega) (by omega) | omega | (simp only [List.length_cons, List.length_nil]; omega) | simp only [datT_tup, datT_lst, datT_int, datT_bl, datT_non, List.all_cons, List.all_nil, Bool.and_self, Bool.and_true]) [-bind_ite, -st_ite, -seq_ite, -out_ite, -lp_ite, -tryS_ite, -unb_ite, -toM_ite, -nox_ite, -drop_ite, cmp_eqTup, cmp_neTup, cmp_eqLst, cmp_neLst, mod_int, mul_int, div_int, shr_int, cmp_is, cmp_isnot, xisAny, List.lookup, ne, tr]
  refine ch g (by omega) (by omega) gd ?_
  intro zs s2 nz lz gz
  have du := fun m => due_ok nz lz (fun w hw => Gd.asc (gz w hw)) m
  have z1 := join_len zs
  have z2 := sum_le fun w hw => Gd.sm (gz w hw)
  have jz := fun m => sm_join (a := " ") (ys := zs) m ⟨by rw [l3]; omega, by omega⟩
  have tw := fun {m K} k => @told_w zs (wds_of nz lz gz) m K k
  have g2 := gs_same (c := cel s2) g
  have rd := fun {r} h => @rowV_dat zs r h gz
  generalize m'.set h (cel s2) = m2 at *
  generalize Txt.join " " zs = Z at *
  generalize zs.map T.str = L at *
  simp (disch := first | assumption | rfl | exact mulOk_r (by omega) (by omega) | exact mulOk_l (by omega) (by omega) | exact divOk_s (by omega) (by omega) | omega | (simp only [List.length_cons, List.length_nil]; omega) | simp only [datT_tup, datT_lst, datT_int, datT_bl, datT_non, List.all_cons, List.all_nil, Bool.and_self, Bool.and_true]) [-bind_ite, -st_ite, -seq_ite, -out_ite, -lp_ite, -tryS_ite, -unb_ite, -toM_ite, -nox_ite, -drop_ite, cmp_eqTup, cmp_neTup, cmp_eqLst, cmp_neLst, mod_int, mul_int, div_int, shr_int, cmp_is, cmp_isnot, xisAny, List.lookup, du, jz]
  refine tw fun m3 q3 => ?_
  have g3 := q3 _ _ g2
  have e1 : ∀ m, cmpT .NotEq (.tup [.non, .int 0]) (.tup [.non, .int 0]) m = .ok (.bl false) m := fun m => by
    rw [cmp_neTup m rfl rfl]
    rfl
  have ub : ∀ m, bmTy .upper (.str J) m = true := fun _ => rfl
  cases hv : rowV zs with
  | none =>
    simp (disch := first | assumption | rfl | exact mulOk_r (by omega) (by omega) | exact mulOk_l (by omega) (by omega) | exact divOk_s (by omega) (by omega) | omega | (simp only [List.length_cons, List.length_nil]; omega) | simp only [datT_tup, datT_lst, datT_int, datT_bl, datT_non, List.all_cons, List.all_nil, Bool.and_self, Bool.and_true]) [-bind_ite, -st_ite, -seq_ite, -out_ite, -lp_ite, -tryS_ite, -unb_ite, -toM_ite, -nox_ite, -drop_ite, cmp_eqTup, cmp_neTup, cmp_eqLst, cmp_neLst, mod_int, mul_int, div_int, shr_int, cmp_is, cmp_isnot, xisAny, List.lookup, e1, p1, p2, p3, p4, ub, atI_lit]
    refine next2_w g3 (by omega) (by omega) ?_
    intro v s3 v0 v1
    have ks := fun m => e1 m
    generalize hm4 : m3.set h (cel s3) = m4
    simp (disch := first | assumption | rfl | exact mulOk_r (by omega) (by omega) | exact mulOk_l (by omega) (by omega) | exact divOk_s (by omega) (by omega) | omega | (simp only [List.length_cons, List.length_nil]; omega) | simp only [datT_tup, datT_lst, datT_int, datT_bl, datT_non, List.all_cons, List.all_nil, Bool.and_self, Bool.and_true]) [-bind_ite, -st_ite, -seq_ite, -out_ite, -lp_ite, -tryS_ite, -unb_ite, -toM_ite, -nox_ite, -drop_ite, cmp_eqTup, cmp_neTup, cmp_eqLst, cmp_neLst, mod_int, mul_int, div_int, shr_int, cmp_is, cmp_isnot, xisAny, List.lookup]
    refine atQ_w v0 (by simpa using v1) ?_
    intro t _ ht
    simp (disch := first | assumption | rfl | exact mulOk_r (by omega) (by omega) | exact mulOk_l (by omega) (by omega) | exact divOk_s (by omega) (by omega) | omega | (simp only [List.length_cons, List.length_nil]; omega) | simp only [datT_tup, datT_lst, datT_int, datT_bl, datT_non, List.all_cons, List.all_nil, Bool.and_self, Bool.and_true]) [-bind_ite, -st_ite, -seq_ite, -out_ite, -lp_ite, -tryS_ite, -unb_ite, -toM_ite, -nox_ite, -drop_ite, cmp_eqTup, cmp_neTup, cmp_eqLst, cmp_neLst, mod_int, mul_int, div_int, shr_int, cmp_is, cmp_isnot, xisAny, List.lookup]
    refine od ht fun m5 _ => ?_
    simp (disch := first | assumption | rfl | exact mulOk_r (by omega) (by omega) | exact mulOk_l (by omega) (by omega) | exact divOk_s (by omega) (by omega) | omega | (simp only [List.length_cons, List.length_nil]; omega) | simp only [datT_tup, datT_lst, datT_int, datT_bl, datT_non, List.all_cons, List.all_nil, Bool.and_self, Bool.and_true]) [-bind_ite, -st_ite, -seq_ite, -out_ite, -lp_ite, -tryS_ite, -unb_ite, -toM_ite, -nox_ite, -drop_ite, cmp_eqTup, cmp_neTup, cmp_eqLst, cmp_neLst, mod_int, mul_int, div_int, shr_int, cmp_is, cmp_isnot, xisAny, List.lookup, e1]
    exact k _ _ _ _ _ _ _ _ _
  | some r1 =>
    obtain ⟨xs, rfl, dx⟩ := rd hv
    have e2 : ∀ m, cmpT .NotEq (.tup [.tup xs, .int (-1)]) (.tup [.tup xs, .int (-1)]) m = .ok (.bl false) m := fun m => by
      have d : [T.tup xs, .int (-1)].all (datT 63) = true := by
        have : datT 63 (.tup xs) = true := dx
        simp only [List.all_cons, this, List.all_nil, Bool.and_true]
        rfl
      rw [cmp_neTup m d d, eqvTs_refl d]
      rfl
    simp (disch := first | assumption | rfl | exact mulOk_r (by omega) (by omega) | exact mulOk_l (by omega) (by omega) | exact divOk_s (by omega) (by omega) | omega | (simp only [List.length_cons, List.length_nil]; omega) | simp only [datT_tup, datT_lst, datT_int, datT_bl, datT_non, List.all_cons, List.all_nil, Bool.and_self, Bool.and_true]) [-bind_ite, -st_ite, -seq_ite, -out_ite, -lp_ite, -tryS_ite, -unb_ite, -toM_ite, -nox_ite, -drop_ite, cmp_eqTup, cmp_neTup, cmp_eqLst, cmp_neLst, mod_int, mul_int, div_int, shr_int, cmp_is, cmp_isnot, xisAny, List.lookup, e1, e2, p1, p2, p3, p4, ub, atI_lit]
    refine next2_w g3 (by omega) (by omega) ?_
    intro v s3 v0 v1
    have ks := fun m => e1 m
    generalize hm4 : m3.set h (cel s3) = m4
    simp (disch := first | assumption | rfl | exact mulOk_r (by omega) (by omega) | exact mulOk_l (by omega) (by omega) | exact divOk_s (by omega) (by omega) | omega | (simp only [List.length_cons, List.length_nil]; omega) | simp only [datT_tup, datT_lst, datT_int, datT_bl, datT_non, List.all_cons, List.all_nil, Bool.and_self, Bool.and_true]) [-bind_ite, -st_ite, -seq_ite, -out_ite, -lp_ite, -tryS_ite, -unb_ite, -toM_ite, -nox_ite, -drop_ite, cmp_eqTup, cmp_neTup, cmp_eqLst, cmp_neLst, mod_int, mul_int, div_int, shr_int, cmp_is, cmp_isnot, xisAny, List.lookup]
    refine atQ_w v0 (by simpa using v1) ?_
    intro t _ ht
    simp (disch := first | assumption | rfl | exact mulOk_r (by omega) (by omega) | exact mulOk_l (by omega) (by omega) | exact divOk_s (by omega) (by omega) | omega | (simp only [List.length_cons, List.length_nil]; omega) | simp only [datT_tup, datT_lst, datT_int, datT_bl, datT_non, List.all_cons, List.all_nil, Bool.and_self, Bool.and_true]) [-bind_ite, -st_ite, -seq_ite, -out_ite, -lp_ite, -tryS_ite, -unb_ite, -toM_ite, -nox_ite, -drop_ite, cmp_eqTup, cmp_neTup, cmp_eqLst, cmp_neLst, mod_int, mul_int, div_int, shr_int, cmp_is, cmp_isnot, xisAny, List.lookup]
    refine od ht fun m5 _ => ?_
    simp (disch := first | assumption | rfl | exact mulOk_r (by omega) (by omega) | exact mulOk_l (by omega) (by omega) | exact divOk_s (by omega) (by omega) | omega | (simp only [List.length_cons, List.length_nil]; omega) | simp only [datT_tup, datT_lst, datT_int, datT_bl, datT_non, List.all_cons, List.all_nil, Bool.and_self, Bool.and_true]) [-bind_ite, -st_ite, -seq_ite, -out_ite, -lp_ite, -tryS_ite, -unb_ite, -toM_ite, -nox_ite, -drop_ite, cmp_eqTup, cmp_neTup, cmp_eqLst, cmp_neLst, mod_int, mul_int, div_int, shr_int, cmp_is, cmp_isnot, xisAny, List.lookup, e1]
    exact k _ _ _ _ _ _ _ _ _
theorem law_true : ∀ ns : List Int, ns.length ≤ 63 → ∃ m', f_law [.scr ns] [] = .ok (.bl true) m' := by
  intro ns hl
  refine law_fin ?_
  rw [e_law, b_law]
  have ad : ∀ m, binT .Add (.lst [.int 0]) (.lst (List.take 16 (ns.map T.int))) m = .ok (.lst ((0 :: List.take 16 ns).map .int)) m := fun m => by
    rw [add_lst m (by simp; omega), List.map_cons, List.map_take]
    rfl
  generalize (0 :: List.take 16 ns) = cs at *
  simp (disch := first | assumption | rfl | exact mulOk_r (by omega) (by omega) | exact mulOk_l (by omega) (by omega) | exact divOk_s (by omega) (by omega) | omega | (simp only [List.length_cons, List.length_nil]; omega) | simp only [datT_tup, datT_lst, datT_int, datT_bl, datT_non, List.all_cons, List.all_nil, Bool.and_self, Bool.and_true]) [-bind_ite, -st_ite, -seq_ite, -out_ite, -lp_ite, -tryS_ite, -unb_ite, -toM_ite, -nox_ite, -drop_ite, cmp_eqTup, cmp_neTup, cmp_eqLst, cmp_neLst, mod_int, mul_int, div_int, shr_int, cmp_is, cmp_isnot, xisAny, List.lookup, ad]
  refine WS_keepk (fun e m' => ∃ x1 x2 x3 x4 x5 x6 x7 x8, e = [some (.scr ns), x1, x2, x3, x4, x5, x6, x7, x8]) ⟨_, _, _, _, _, _, _, _, rfl⟩ ?_ ?_
  · rintro x hx e m' ⟨x1, x2, x3, x4, x5, x6, x7, x8, rfl⟩
    obtain ⟨c, _, rfl⟩ := List.mem_map.mp hx
    exact law_turn fun m' a1 a2 a3 a4 a5 a6 a7 a8 => ⟨_, _, _, _, _, _, _, _, rfl⟩
  · rintro e m' ⟨x1, x2, x3, x4, x5, x6, x7, x8, rfl⟩
    simp (disch := first | assumption | rfl | exact mulOk_r (by omega) (by omega) | exact mulOk_l (by omega) (by omega) | exact divOk_s (by omega) (by omega) | omega | (simp only [List.length_cons, List.length_nil]; omega) | simp only [datT_tup, datT_lst, datT_int, datT_bl, datT_non, List.all_cons, List.all_nil, Bool.and_self, Bool.and_true]) [-bind_ite, -st_ite, -seq_ite, -out_ite, -lp_ite, -tryS_ite, -unb_ite, -toM_ite, -nox_ite, -drop_ite, cmp_eqTup, cmp_neTup, cmp_eqLst, cmp_neLst, mod_int, mul_int, div_int, shr_int, cmp_is, cmp_isnot, xisAny, List.lookup]
end K81
open BV
open PySem PySem.W PySem.Calls PyProof.Rows
set_option maxRecDepth 100000 in
set_option maxHeartbeats 0 in
theorem PySem.Challenge.cw_namehouses_k81_rows_as_texts_holds : PySem.Challenge.rw_namehouses_k81_rows_as_texts.Holds := by
  w_on; o_law
  refine HandSHeadRun.head_any (r := OpenLaw.row PySem.Challenge.rw_namehouses_k81_rows_as_texts) (q := view (OpenLaw.row PySem.Challenge.rw_namehouses_k81_rows_as_texts).prog [35]) (H := K81.hk) (ob := K81.ob) (M := 20000) (loose := K81.looseL) (d := HandSHeadRun.topDef (OpenLaw.row PySem.Challenge.rw_namehouses_k81_rows_as_texts).prog 35) (kwd := []) K81.ob_eq
    (by kernel_rfl) (fun s => by kernel_rfl) K81.run (by kernel_rfl) (by kernel_rfl) (by kernel_rfl) (by rfl) (by first | assumption | decide +kernel) (by decide +kernel) ⟨rfl, rfl, rfl, rfl, rfl, by decide +kernel⟩ ?hw ?hc
  case hw => w_witness2
  case hc => exact BV.law_endY rfl rfl (by kernel_rfl) (by kernel_rfl) ⟨rfl, by decide, by decide⟩ (fun w mg h K X Gn c e => K81.all X Gn c e) (List.mem_of_getElem? (i := 27) rfl) K81.law_true
