import PyProof.Rows.All
import Wide.All
import OpenK.AllK
import Wide.FinOn
import HandS.ForMost
import HandS.Exc
import HandS.TryOnly
import HandS.Wide
import HandS.Lambda
import HandS.TupAny
import HandS.TupMul
import HandS.Deep
import HandS.Gcd
import HandS.RaiseMore
import HandS.IsInst
import PyProof.IsRules
import HandS.Dict
import HandS.RevTup
import KE.KRevSl
import PyProof.ReprRoads
import HandS.HotCalls
import HandS.Small
import HandS.Walk
import HandS.Zip
import HandS.ExcInit
import HandS.ExcField
import HandS.ExcIs
import HandS.Comp
import HandS.Style
import HandS.Codes
import HandS.HeadHook4
import HandS.EndBits
import HandS.Head2
import HandS.Head3
import PyProof.StrLawsRepr
import PyProof.Rows.ReprOcc
import PySem.Challenge.RW_rootfigures_k01_errors
set_option Elab.async false
set_option linter.all false
set_option maxRecDepth 100000
set_option maxHeartbeats 0
/-! PI, part a: plain data, core syntax, and what core syntax computes. -/
namespace PI
open PySem

/-- plain data. o: only one reference to it is left (it may be changed); scr: the script's own list, read alone -/
inductive D where
  | non
  | bl (b : Bool)
  | int (i : Int)
  | str (x : Str)
  | tup (xs : List D)
  | lst (o : Bool) (xs : List D)
  | scr (ns : List Int)
  | dic (o : Bool) (ks vs : List D)
  | ins (o : Bool) (C : Nat) (vs : List D)
  | fn (f : Nat)
  | exc (C : Nat) (vs : List D)
deriving Inhabited

def D.own : D → Bool
  | .lst o _ => o
  | .dic o _ _ => o
  | .ins o _ _ => o
  | _ => false
def D.fr : D → D
  | .lst _ xs => .lst false xs
  | .dic _ ks vs => .dic false ks vs
  | .ins _ C vs => .ins false C vs
  | d => d

abbrev Env := List (Option D)
inductive Out (α : Type) where
  | ok (a : α) (ρ : Env)
  | exc (e : D) (ρ : Env)
  | stuck
/-- what a call comes to: the value, and of each argument that was handed over to be changed what it is then -/
inductive FOut where
  | ok (v : D) (outs : List (Option D))
  | exc (e : D) (outs : List (Option D))
  | stuck
def bd {α β : Type} (m : Env → Out α) (f : α → Env → Out β) : Env → Out β := fun ρ => match m ρ with
  | .ok a ρ' => f a ρ'
  | .exc e ρ' => .exc e ρ'
  | .stuck => .stuck
/-- no exception may come out -/
def noexc {α : Type} (m : Env → Out α) : Env → Out α := fun ρ => match m ρ with
  | .ok a ρ' => .ok a ρ'
  | _ => .stuck

/-! ### values -/
mutual
def D.py : D → Option PyData
  | .non => some .none
  | .bl b => some (.bool b)
  | .int i => some (.int i)
  | .str x => some (.str x)
  | .tup xs => (D.pys xs).map .tuple
  | .lst _ xs => (D.pys xs).map .list
  | .dic _ ks vs => match D.pys ks, D.pys vs with
    | some a, some b => some (.dict (a.zip b))
    | _, _ => none
  | _ => none
def D.pys : List D → Option (List PyData)
  | [] => some []
  | d :: ds => match D.py d, D.pys ds with
    | some a, some b => some (a :: b)
    | _, _ => none
end
/-- == of plain data -/
def eqD (a b : D) : Option Bool := match a.py, b.py with
  | some p, some q => if SeqAt.shaped p && SeqAt.shaped q then some (PyData.eqv p q) else none
  | _, _ => none
def reprD (a : D) : Option Str := match a.py with
  | some p => if PyData.showable p && decide (p.shown.length ≤ 16777216) && decide (p.depth ≤ 64) then some p.shown else none
  | none => none
def truth : D → Option Bool
  | .non => some false
  | .bl b => some b
  | .int i => some (i != 0)
  | .str x => if x.length ≤ 16777216 then some ((x.length : Int) != 0) else none
  | .tup xs => some (!xs.isEmpty)
  | .lst _ xs => some (!xs.isEmpty)
  | _ => none

/-! ### primitive operations -/
inductive Ty where
  | int | bool | str | tuple | list | dict | valueError
  | cls (C : Nat)
deriving DecidableEq
inductive Pr where
  | add | sub | mul | fdiv | mod | pow | shl | neg | not
  | eq | ne | lt | le | gt | ge | is | isnot | isin | notin
  | idx | slc (lo hi : Bool) | rev
  | len | int | abs | repr | tuple | list | sum | all | any | max | min | sorted | gcd | str
  | isi (tys : List Ty)
  | attr (f : Str)
  | get
deriving DecidableEq
/-- the classes of the text: its name, what __init__ stores in order (of an exception: its parameters), whether it is an exception's -/
structure Cls where
  name : Str
  fields : List Str
  exc : Bool
  up : Option Nat := none
  init : Nat := 0
  meths : List (Str × Nat) := []
abbrev ClsT := Nat → Option Cls

def intsD : List D → Option (List Int)
  | [] => some []
  | .int i :: r => (intsD r).map (i :: ·)
  | _ => none
def boolsD : List D → Option (List Bool)
  | [] => some []
  | .bl i :: r => (boolsD r).map (i :: ·)
  | _ => none
/-- the items of a sequence -/
def seqD : D → Option (List D)
  | .tup xs => some xs
  | .lst _ xs => some xs
  | .scr ns => some (ns.map .int)
  | _ => none
def cutD (xs : List D) (lo hi : Option Int) : List D := (xs.drop (HT.sIx xs.length 0 lo)).take (HT.sIx xs.length xs.length hi - HT.sIx xs.length 0 lo)
def mulOk (a b : Int) : Bool := decide (a.natAbs.log2 + b.natAbs.log2 < 1000000)
def divOk (b : Int) : Bool := decide (b ≠ 0) && decide (b.natAbs.log2 < 9000)
def powOk (a b : Int) : Bool := decide (0 ≤ b) && decide (b ≤ 1000000) && decide (a.natAbs < 2 ^ 64)
def lineOk (n : Nat) : Bool := decide (n ≤ 16777216)
def tyIs (T : ClsT) (d : D) : Ty → Option Bool
  | .int => match d with
    | .int _ | .bl _ => some true
    | .fn _ | .exc .. => none
    | _ => some false
  | .bool => match d with
    | .bl _ => some true
    | .fn _ | .exc .. => none
    | _ => some false
  | .str => match d with
    | .str _ => some true
    | .fn _ | .exc .. => none
    | _ => some false
  | .tuple => match d with
    | .tup _ => some true
    | .fn _ | .exc .. => none
    | _ => some false
  | .list => match d with
    | .lst .. | .scr _ => some true
    | .fn _ | .exc .. => none
    | _ => some false
  | .dict => match d with
    | .dic .. => some true
    | .fn _ | .exc .. => none
    | _ => some false
  | .valueError => match d with
    | .exc .. => some true
    | _ => none
  | .cls C => if (T C).isSome then (match d with
    | .exc C' _ => some (C' == C || (match T C' with
      | some c => c.up == some C
      | none => false))
    | .ins _ C' _ => some (C' == C)
    | .fn _ => none
    | _ => some false) else none
def tyAny (T : ClsT) (d : D) : List Ty → Option Bool
  | [] => some false
  | t :: r => match tyIs T d t with
    | some true => some true
    | some false => tyAny T d r
    | none => none
/-- an object is of a class of objects, an exception of an exception's -/
def okKind (T : ClsT) : D → Bool
  | .ins _ C _ => match T C with
    | some c => !c.exc
    | none => false
  | .exc C _ => match T C with
    | some c => c.exc
    | none => false
  | _ => true
def fieldOf (x : Bool) (T : ClsT) (C : Nat) (vs : List D) (f : Str) : Option D := match T C with
  | some c => if c.exc == x then (c.fields.zip vs).lookup f else none
  | none => none
def cmpI (p : Int → Int → Bool) : List D → Option D
  | [.int a, .int b] => some (.bl (p a b))
  | _ => none
def sameD : D → D → Option Bool
  | .non, .non => some true
  | .bl a, .bl b => some (a == b)
  | .non, .bl _ => some false
  | d, .non => match d with
    | .fn _ | .exc .. => none
    | _ => some false
  | d, .bl _ => match d with
    | .fn _ | .exc .. => none
    | _ => some false
  | _, _ => none
def repD (xs : List D) (k : Int) : List D := (List.replicate k.toNat xs).flatten
def lexLe : List Int → List Int → Bool
  | [], _ => true
  | _ :: _, [] => false
  | a :: r, b :: s => if a = b then lexLe r s else decide (a < b)

def pAdd : List D → Option D
  | [.int a, .int b] => some (.int (a + b))
  | [.tup a, .tup b] => if lineOk (a.length + b.length) then some (.tup (a ++ b)) else none
  | [.lst _ a, .lst _ b] => if lineOk (a.length + b.length) then some (.lst true (a ++ b)) else none
  | [.str a, .str b] => if lineOk (a.length + b.length) then some (.str (a ++ b)) else none
  | _ => none
def pMul : List D → Option D
  | [.int a, .int b] => if mulOk a b then some (.int (a * b)) else none
  | [.tup a, .int k] => if decide (-1000 ≤ k) && decide (k ≤ 1000) && decide (a.length ≤ 1000) then some (.tup (repD a k)) else none
  | [.lst _ a, .int k] => if decide (-1000 ≤ k) && decide (k ≤ 1000) && decide (a.length ≤ 1000) then some (.lst true (repD a k)) else none
  | _ => none
/-- an operation on two ints -/
def pInt (g : Int → Int → Option Int) : List D → Option D
  | [.int a, .int b] => (g a b).map .int
  | _ => none
def isKey (k : Str) : D → Bool
  | .str z => decide (z = k)
  | _ => false
def dgetK (k : Str) : List D → List D → Option D
  | a :: ks, v :: vs => if isKey k a then some v else dgetK k ks vs
  | _, _ => none
def pIdx : List D → Option D
  | [.tup xs, .int i] => L2.atI xs i
  | [.lst _ xs, .int i] => L2.atI xs i
  | [.dic _ ks vs, .str k] => dgetK k ks vs
  | _ => none
def pSlc : Bool → Bool → List D → Option D
  | true, true, [.tup xs, .int a, .int b] => some (.tup (cutD xs (some a) (some b)))
  | true, false, [.tup xs, .int a] => some (.tup (cutD xs (some a) none))
  | false, true, [.tup xs, .int b] => some (.tup (cutD xs none (some b)))
  | false, false, [.tup xs] => some (.tup (cutD xs none none))
  | true, true, [.lst _ xs, .int a, .int b] => some (.lst true (cutD xs (some a) (some b)))
  | true, false, [.lst _ xs, .int a] => some (.lst true (cutD xs (some a) none))
  | false, true, [.lst _ xs, .int b] => some (.lst true (cutD xs none (some b)))
  | false, false, [.lst _ xs] => some (.lst true (cutD xs none none))
  | _, _, _ => none
def pRev : List D → Option D
  | [.tup xs] => some (.tup xs.reverse)
  | [.lst _ xs] => some (.lst true xs.reverse)
  | _ => none
def pLen : List D → Option D
  | [.str x] => if lineOk x.length then some (.int x.length) else none
  | [.tup xs] => some (.int xs.length)
  | [.lst _ xs] => some (.int xs.length)
  | [.scr xs] => some (.int xs.length)
  | [.dic _ ks _] => some (.int ks.length)
  | _ => none
def pToInt : List D → Option D
  | [.int a] => some (.int a)
  | [.bl b] => some (.int (if b then 1 else 0))
  | _ => none
def pAbs : List D → Option D
  | [.int a] => some (.int (if a < 0 then -a else a))
  | _ => none
def pNeg : List D → Option D
  | [.int a] => some (.int (-a))
  | _ => none
def p1 (g : D → Option D) : List D → Option D
  | [a] => g a
  | _ => none
def p2 (g : D → D → Option D) : List D → Option D
  | [a, b] => g a b
  | _ => none
def pSum : List D → Option D
  | [.lst _ xs] => (intsD xs).map fun ns => .int ns.sum
  | _ => none
def pAll (g : List Bool → Bool) : List D → Option D
  | [.lst _ xs] => (boolsD xs).map fun bs => .bl (g bs)
  | _ => none
def pAttr (T : ClsT) (f : Str) : List D → Option D
  | [.ins _ C vs] => fieldOf false T C vs f
  | [.exc C vs] => fieldOf true T C vs f
  | _ => none
def pIn (n : Bool) (a b : D) : Option D := match a.py, b.py with
  | some p, some (.tuple ps) => if SeqAt.shaped p && SeqAt.shaped (.tuple ps) then some (.bl ((ps.any fun z => PyData.eqv z p) != n)) else none
  | some p, some (.list ps) => if SeqAt.shaped p && SeqAt.shaped (.list ps) then some (.bl ((ps.any fun z => PyData.eqv z p) != n)) else none
  | _, _ => none
def pr (T : ClsT) : Pr → List D → Option D
  | .add => pAdd
  | .sub => pInt fun a b => some (a - b)
  | .mul => pMul
  | .fdiv => pInt fun a b => if divOk b then some (a.fdiv b) else none
  | .mod => pInt fun a b => if b = 0 then none else some (a.fmod b)
  | .pow => pInt fun a b => if powOk a b then some (a ^ b.toNat) else none
  | .shl => pInt fun a b => if powOk a b then some (a * 2 ^ b.toNat) else none
  | .neg => pNeg
  | .not => p1 fun a => (truth a).map fun b => .bl (!b)
  | .eq => p2 fun a b => (eqD a b).map .bl
  | .ne => p2 fun a b => (eqD a b).map fun x => .bl (!x)
  | .lt => cmpI fun a b => decide (a < b)
  | .le => cmpI fun a b => decide (a ≤ b)
  | .gt => cmpI fun a b => decide (b < a)
  | .ge => cmpI fun a b => decide (b ≤ a)
  | .is => p2 fun a b => (sameD a b).map .bl
  | .isnot => p2 fun a b => (sameD a b).map fun x => .bl (!x)
  | .isin => p2 (pIn false)
  | .notin => p2 (pIn true)
  | .idx => pIdx
  | .slc lo hi => pSlc lo hi
  | .rev => pRev
  | .len => pLen
  | .int => pToInt
  | .abs => pAbs
  | .repr => p1 fun d => (reprD d).map .str
  | .tuple => p1 fun d => (seqD d).map .tup
  | .list => p1 fun d => (seqD d).map (.lst true)
  | .sum => pSum
  | .all => pAll fun bs => bs.all id
  | .any => pAll fun bs => bs.any id
  | .max => pInt fun a b => some (if b > a then b else a)
  | .min => pInt fun a b => some (if b < a then b else a)
  | .gcd => pInt fun a b => some (Nat.gcd a.natAbs b.natAbs : Nat)
  | .isi tys => p1 fun d => if okKind T d && !tys.isEmpty then (tyAny T d tys).map .bl else none
  | .attr f => pAttr T f
  | _ => fun _ => none

/-! ### core syntax -/
/-- a target of names -/
inductive Tg where
  | nm (i : Nat)
  | tup (ts : List Tg)
deriving Inhabited
inductive Wk where
  | seq | zip | enum | range
deriving DecidableEq
mutual
inductive CE where
  | var (i : Nat)
  | non | bl (b : Bool) | int (i : Int) | str (x : Str)
  | glob (k : Nat)
  | fn (f : Nat)
  | tup (es : CEs)
  | lst (es : CEs)
  | dict (ks : List Str) (es : CEs)
  | pr (p : Pr) (es : CEs)
  | chain (p q : Pr) (a b c : CE)
  | and (a b : CE)
  | or (a b : CE)
  | ite (t a b : CE)
  | call (f : Nat) (es : CEs)
  | callS (i : Nat) (es : CEs)
  | meth (m : Str) (a : CA) (es : CEs)
  | callC
  | callL (f : Nat) (e : CE)
  | lc (elt : CE) (tg : Tg) (w : Wk) (src : CEs) (ifs : CEs) (own : List Nat)
/-- arguments: a value; the list, dict or object of a name lent for reading, or for changing -/
inductive CA where
  | ex (e : CE)
  | bor (i : Nat)
  | io (i : Nat)
inductive CEs where
  | nil
  | cons (a : CA) (r : CEs)
end
mutual
inductive CS where
  | pass | brk | cnt | retN
  | ret (e : CE)
  | retS (i : Nat)
  | drop (e : CE)
  | asg (tg : Tg) (e : CE)
  | par (is : List Nat) (es : CEs)
  | mov (i j : Nat)
  | aug (i : Nat) (p : Pr) (e : CE)
  | setI (i : Nat) (k e : CE)
  | setA (f : Str) (e : CE)
  | app (i : Nat) (e : CE)
  | ext (i : Nat) (e : CE)
  | iff (t : CE) (a b : CSs)
  | whl (t : CE) (b : CSs)
  | for (tg : Tg) (w : Wk) (src : CEs) (b : CSs)
  | raise (C : Nat) (es : CEs)
  | tryE (b : CSs) (C : Nat) (i : Nat) (h : CSs)
  | tryO (b : CSs) (C : Nat) (h : CSs)
/-- frz i: what name i holds is changed no more from here on -/
inductive CSs where
  | nil
  | cons (s : CS) (r : CSs)
  | frz (i : Nat) (r : CSs)
end
structure Fn where
  ps : Nat
  n : Nat
  io : List Nat
  body : CSs
inductive Def where
  | fn (d : Fn)
  | cls (C : Nat)
abbrev Tbl := Nat → Option Def
inductive Fl where
  | nx | bk | ct
  | rt (d : D)

/-! ### what it computes -/
inductive Ar where
  | d (x : D)
  | b (i : Nat)
  | io (i : Nat)
def rdS (ρ : Env) (i : Nat) : Option D := match ρ[i]? with
  | some (some d) => some d
  | _ => none
def ard (ρ : Env) : List Ar → Option (List D)
  | [] => some []
  | .d x :: r => (ard ρ r).map (x :: ·)
  | .b i :: r => match rdS ρ i with
    | some d => (ard ρ r).map (d.fr :: ·)
    | none => none
  | .io _ :: _ => none
/-- values alone -/
def ardD : List Ar → Option (List D)
  | [] => some []
  | .d x :: r => (ardD r).map (x :: ·)
  | _ :: _ => none
open Classical in
/-- what was lent to a walk stands as it stood -/
noncomputable def sameB (ρ0 : Env) : List Ar → Env → Bool
  | [], _ => true
  | .b i :: r, ρ => decide (rdS ρ i = rdS ρ0 i) && sameB ρ0 r ρ
  | _ :: r, ρ => sameB ρ0 r ρ
/-- for a call: the lent ones frozen, the ones to be changed as they are -/
def arc (ρ : Env) : List Ar → Option (List D)
  | [] => some []
  | .d x :: r => (arc ρ r).map (x :: ·)
  | .b i :: r => match rdS ρ i with
    | some d => (arc ρ r).map (d.fr :: ·)
    | none => none
  | .io i :: r => match rdS ρ i with
    | some d => if d.own then (arc ρ r).map (d :: ·) else none
    | none => none
def putB : Env → List Ar → List (Option D) → Option Env
  | ρ, [], [] => some ρ
  | ρ, .io i :: r, some d :: os => if d.own then putB (ρ.set i (some d)) r os else none
  | ρ, .d _ :: r, none :: os => putB ρ r os
  | ρ, .b _ :: r, none :: os => putB ρ r os
  | _, _, _ => none
def ownAt (ρ : Env) (i : Nat) : Bool := match rdS ρ i with
  | some d => d.own
  | none => false
/-- something of ours alone is lent -/
def lentB (ρ : Env) : List Ar → Bool
  | [] => false
  | .b i :: r => ownAt ρ i || lentB ρ r
  | _ :: r => lentB ρ r
/-- i is not among what is handed over to be changed, or lent -/
def noIx (i : Nat) : List Ar → Bool
  | [] => true
  | .io j :: r => decide (i ≠ j) && noIx i r
  | .b j :: r => decide (i ≠ j) && noIx i r
  | _ :: r => noIx i r
def okIo : List Ar → Bool
  | [] => true
  | .io i :: r => noIx i r && okIo r
  | .b i :: r => noIo i r && okIo r
  | _ :: r => okIo r
where noIo (i : Nat) : List Ar → Bool
  | [] => true
  | .io j :: r => decide (i ≠ j) && noIo i r
  | _ :: r => noIo i r
mutual
/-- no list or dict is within -/
def D.flat : D → Bool
  | .tup xs => D.flats xs
  | .lst .. | .dic .. | .ins .. | .exc .. | .scr _ => false
  | _ => true
def D.flats : List D → Bool
  | [] => true
  | d :: r => D.flat d && D.flats r
end
/-- what is within is flat -/
def D.thin : D → Bool
  | .lst true xs => D.flats xs
  | .dic true ks vs => D.flats ks && D.flats vs
  | .ins true _ vs => D.flats vs
  | .exc _ vs => D.flats vs
  | d => d.flat
def thinO : List (Option D) → Bool
  | [] => true
  | some d :: r => d.thin && thinO r
  | none :: r => thinO r
def callR (as : List Ar) (ρ : Env) : FOut → Out D
  | .ok v outs => if okIo as && (!lentB ρ as || (v.thin && thinO outs)) then match putB ρ as outs with
      | some ρ' => .ok v ρ'
      | none => .stuck
    else .stuck
  | .exc e outs => if okIo as && (!lentB ρ as || (e.thin && thinO outs)) then match putB ρ as outs with
      | some ρ' => .exc e ρ'
      | none => .stuck
    else .stuck
  | .stuck => .stuck
mutual
def Tg.ix : Tg → List Nat
  | .nm i => [i]
  | .tup ts => Tg.ixs ts
def Tg.ixs : List Tg → List Nat
  | [] => []
  | t :: r => t.ix ++ Tg.ixs r
end
def asgT : Tg → D → Env → Option Env
  | .nm i, d, ρ => if i < ρ.length then some (ρ.set i (some d)) else none
  | .tup ts, .tup ds, ρ => asgTs ts ds ρ
  | .tup ts, .lst _ ds, ρ => asgTs ts ds ρ
  | _, _, _ => none
where
  asgTs : List Tg → List D → Env → Option Env
  | [], [], ρ => some ρ
  | t :: ts, d :: ds, ρ => match asgT t d ρ with
    | some ρ' => asgTs ts ds ρ'
    | none => none
  | _, _, _ => none
def rangeD : List D → Option (List D)
  | [.int j] => if decide (-(2 ^ 62) ≤ j) && decide (j < 2 ^ 62) then some ((List.range j.toNat).map fun k : Nat => .int (0 + (k : Int))) else none
  | [.int i, .int j] => if decide (-(2 ^ 62) ≤ i) && decide (i < 2 ^ 62) && decide (-(2 ^ 62) ≤ j) && decide (j < 2 ^ 62) then some ((List.range (j - i).toNat).map fun k : Nat => .int (i + (k : Int))) else none
  | [.int i, .int j, .int c] => if decide (c = -1) && decide (-(2 ^ 62) ≤ i) && decide (i < 2 ^ 62) && decide (-(2 ^ 62) ≤ j) && decide (j < 2 ^ 62) then some ((List.range (i - j).toNat).map fun k : Nat => .int (i + (k : Int) * (-1))) else none
  | _ => none
def zipD : List D → List D → List D
  | x :: xs, y :: ys => .tup [x, y] :: zipD xs ys
  | _, _ => []
def enumD : Nat → List D → List D
  | _, [] => []
  | i, x :: xs => .tup [.int i, x] :: enumD (i + 1) xs
def isTup : D → Bool
  | .tup _ => true
  | _ => false
def walkD : Wk → List D → Option (List D)
  | .seq, [d] => seqD d
  | .zip, [a, b] => if isTup a == isTup b then match seqD a, seqD b with
      | some xs, some ys => some (zipD xs ys)
      | _, _ => none
    else none
  | .enum, [a] => if isTup a then none else match seqD a with
    | some xs => some (enumD 0 xs)
    | none => none
  | .range, ds => rangeD ds
  | _, _ => none
def wipeE (ρ : Env) : List Nat → Env
  | [] => ρ
  | i :: r => (wipeE ρ r).set i none
/-- the block's own names get back what they had -/
def backE (ρ ρ' : Env) : List Nat → Env
  | [] => ρ'
  | i :: r => backE ρ (match ρ[i]? with
    | some x => ρ'.set i x
    | none => ρ') r
def forL (ok : Env → Bool) (asg : D → Env → Option Env) (body : Env → Out Fl) : List D → Env → Out Fl
  | [], ρ => if ok ρ then .ok .nx ρ else .stuck
  | d :: r, ρ => if ok ρ then match asg d ρ with
    | none => .stuck
    | some ρ1 => match body ρ1 with
      | .ok .nx ρ2 => forL ok asg body r ρ2
      | .ok .ct ρ2 => forL ok asg body r ρ2
      | .ok .bk ρ2 => .ok .nx ρ2
      | .ok (.rt v) ρ2 => .ok (.rt v) ρ2
      | .exc e ρ2 => .exc e ρ2
      | .stuck => .stuck
    else .stuck
def lcL (ok : Env → Bool) (wp : Env → Env) (asg : D → Env → Option Env) (tst : Env → Out Bool) (elt : Env → Out D) : List D → Env → List D → Out (List D)
  | [], ρ, acc => if ok ρ then .ok acc ρ else .stuck
  | d :: r, ρ, acc => if ok ρ then match asg d ρ with
    | none => .stuck
    | some ρ1 => match tst ρ1 with
      | .ok true ρ2 => match elt ρ2 with
        | .ok v ρ3 => if acc.length < 16777216 then lcL ok wp asg tst elt r (wp ρ3) (acc ++ [v.fr]) else .stuck
        | _ => .stuck
      | .ok false ρ2 => lcL ok wp asg tst elt r (wp ρ2) acc
      | _ => .stuck
    else .stuck
def whileF (c : Env → Out Bool) (b : Env → Out Fl) : Nat → Env → Out Fl
  | 0, _ => .stuck
  | n + 1, ρ => match c ρ with
    | .ok false ρ1 => .ok .nx ρ1
    | .ok true ρ1 => match b ρ1 with
      | .ok .nx ρ2 => whileF c b n ρ2
      | .ok .ct ρ2 => whileF c b n ρ2
      | .ok .bk ρ2 => .ok .nx ρ2
      | .ok (.rt v) ρ2 => .ok (.rt v) ρ2
      | .exc e ρ2 => .exc e ρ2
      | .stuck => .stuck
    | .exc e ρ1 => .exc e ρ1
    | .stuck => .stuck
open Classical in
noncomputable def whileD (c : Env → Out Bool) (b : Env → Out Fl) (ρ : Env) : Out Fl :=
  if h : ∃ n, whileF c b n ρ ≠ .stuck then whileF c b (choose h) ρ else .stuck
def truM (m : Env → Out D) : Env → Out Bool := bd m fun d ρ => match truth d with
  | some b => .ok b ρ
  | none => .stuck
def ofO {α : Type} (o : Option α) (ρ : Env) : Out α := match o with
  | some a => .ok a ρ
  | none => .stuck
/-- the class of an object -/
def clsD : D → Option Nat
  | .ins _ K _ => some K
  | _ => none
def clsAr (ρ : Env) : Ar → Option Nat
  | .d x => clsD x
  | .b i => (rdS ρ i).bind clsD
  | .io i => (rdS ρ i).bind clsD
def methT (T : ClsT) (K : Nat) (m : Str) : Option Nat := match T K with
  | some c => if c.exc || c.fields.contains m then none else c.meths.lookup m
  | none => none
/-- what calls come to: of a def by number; of the closure that was handed in -/
structure Ctx where
  T : ClsT
  gv : Nat → Option D
  F : Nat → List D → FOut
  L : Nat → FOut → FOut
  cb : FOut
mutual
noncomputable def ev (C : Ctx) : CE → Env → Out D
  | .var i => fun ρ => match rdS ρ i with
    | some d => if d.own then .stuck else .ok d ρ
    | none => .stuck
  | .non => .ok .non
  | .bl b => .ok (.bl b)
  | .int i => .ok (.int i)
  | .str x => .ok (.str x)
  | .glob k => fun ρ => ofO (C.gv k) ρ
  | .fn f => .ok (.fn f)
  | .tup es => bd (evs C es) fun as ρ => ofO ((ardD as).map .tup) ρ
  | .lst es => bd (evs C es) fun as ρ => ofO ((ardD as).map (.lst true)) ρ
  | .dict ks es => bd (evs C es) fun as ρ => ofO (if decide ks.Nodup && decide (ks.length = as.length) && decide (ks.length ≤ 15) then (ardD as).map (.dic true (ks.map .str)) else none) ρ
  | .pr p es => bd (evs C es) fun as ρ => ofO ((ard ρ as).bind (pr C.T p)) ρ
  | .chain p q a b c => bd (ev C a) fun x => bd (ev C b) fun y ρ => match pr C.T p [x.fr, y.fr] with
    | some (.bl false) => .ok (.bl false) ρ
    | some (.bl true) => (bd (ev C c) fun z ρ' => ofO (pr C.T q [y.fr, z.fr]) ρ') ρ
    | _ => .stuck
  | .and a b => bd (ev C a) fun x ρ => match truth x with
    | some true => ev C b ρ
    | some false => .ok x.fr ρ
    | none => .stuck
  | .or a b => bd (ev C a) fun x ρ => match truth x with
    | some true => .ok x.fr ρ
    | some false => ev C b ρ
    | none => .stuck
  | .ite t a b => bd (truM (ev C t)) fun x => if x then ev C a else ev C b
  | .call f es => bd (evs C es) fun as ρ => match arc ρ as with
    | some ds => callR as ρ (C.F f ds)
    | none => .stuck
  | .callS i es => bd (evs C es) fun as ρ => match rdS ρ i, arc ρ as with
    | some (.fn f), some ds => callR as ρ (C.F f ds)
    | _, _ => .stuck
  | .meth m a es => bd (eva C a) fun x ρ1 => match (clsAr ρ1 x).bind fun K => methT C.T K m with
    | some f => bd (evs C es) (fun xs ρ => match arc ρ (x :: xs) with
      | some ds => callR (x :: xs) ρ (C.F f ds)
      | none => .stuck) ρ1
    | none => .stuck
  | .callC => fun ρ => match C.cb with
    | .ok v _ => .ok v ρ
    | .exc e _ => .exc e ρ
    | .stuck => .stuck
  | .callL f e => fun ρ => match C.L f (match ev C e ρ with
      | .ok v _ => .ok v []
      | .exc x _ => .exc x []
      | .stuck => .stuck) with
    | .ok v _ => .ok v ρ
    | .exc x _ => .exc x ρ
    | .stuck => .stuck
  | .lc elt tg w src ifs own => bd (evs C src) fun as ρ => match (ard ρ as).bind (walkD w) with
    | none => .stuck
    | some ds => if own.any (ownAt ρ) then .stuck else
      match lcL (sameB ρ as) (fun r => wipeE r own) (asgT tg) (evt C ifs) (ev C elt) ds (wipeE ρ own) [] with
      | .ok vs ρ' => .ok (.lst true vs) (backE ρ ρ' own)
      | _ => .stuck
noncomputable def eva (C : Ctx) : CA → Env → Out Ar
  | .ex e => bd (ev C e) fun x => .ok (.d x.fr)
  | .bor i => fun ρ => match rdS ρ i with
    | some _ => .ok (.b i) ρ
    | none => .stuck
  | .io i => fun ρ => match rdS ρ i with
    | some _ => .ok (.io i) ρ
    | none => .stuck
noncomputable def evs (C : Ctx) : CEs → Env → Out (List Ar)
  | .nil => .ok []
  | .cons a r => bd (eva C a) fun x => bd (evs C r) fun xs => .ok (x :: xs)
/-- values as they come, what is new among them still ours alone -/
noncomputable def evo (C : Ctx) : CEs → Env → Out (List D)
  | .nil => .ok []
  | .cons (.ex e) r => bd (ev C e) fun x => bd (evo C r) fun xs => .ok (x :: xs)
  | _ => fun _ => .stuck
/-- a comprehension's tests (one at most) -/
noncomputable def evt (C : Ctx) : CEs → Env → Out Bool
  | .nil => .ok true
  | .cons (.ex e) .nil => truM (ev C e)
  | _ => fun _ => .stuck
end
def ordD (ρ : Env) : List Nat → List D → Option Env
  | [], [] => some ρ
  | i :: is, d :: ds => if i < ρ.length then ordD (ρ.set i (some d)) is ds else none
  | _, _ => none
def setK (k : Str) (d : D) (ks vs : List D) : List D × List D :=
  if ks.any (isKey k) then (ks, List.zipWith (fun a v => if isKey k a then d else v) ks vs) else (ks ++ [.str k], vs ++ [d])
def setItemD : D → D → D → Option D
  | .lst true xs, .int i, d => (L2.ixN xs.length i).map fun j => .lst true (xs.set j d)
  | .dic true ks vs, .str k, d => if ks.length < 1000000 then some (.dic true (setK k d ks vs).1 (setK k d ks vs).2) else none
  | _, _, _ => none
/-- self.f = d: a field that is there, or the next one -/
def setAttrD (T : ClsT) : D → Str → D → Option D
  | .ins true C vs, f, d => match T C with
    | some c => match (if c.exc then none else c.fields.findIdx? (· == f)) with
      | some j => if j < vs.length then some (.ins true C (vs.set j d)) else if j = vs.length then some (.ins true C (vs ++ [d])) else none
      | none => none
    | none => none
  | _, _, _ => none
def isLst (ρ : Env) (i : Nat) : Bool := match rdS ρ i with
  | some (.lst true _) => true
  | _ => false
def appD : D → D → Option D
  | .lst true xs, d => if xs.length < 16777216 then some (.lst true (xs ++ [d])) else none
  | _, _ => none
def extD : D → D → Option D
  | .lst true xs, .lst _ ys => if xs.length + ys.length ≤ 16777216 then some (.lst true (xs ++ ys)) else none
  | _, _ => none
def setSlot (ρ : Env) (i : Nat) (o : Option D) : Out Fl := match o with
  | some d => .ok .nx (ρ.set i (some d))
  | none => .stuck
/-- the exception class K' is K, or below it -/
def isSub (T : ClsT) (K' K : Nat) : Bool := K' == K || (match T K' with
  | some c => c.up == some K
  | none => false)
mutual
/-- no exception's object is within -/
def D.noX : D → Bool
  | .tup xs => D.noXs xs
  | .lst _ xs => D.noXs xs
  | .dic _ ks vs => D.noXs ks && D.noXs vs
  | .ins _ _ vs => D.noXs vs
  | .exc .. => false
  | _ => true
def D.noXs : List D → Bool
  | [] => true
  | d :: r => D.noX d && D.noXs r
end
def noXe : Env → Bool
  | [] => true
  | some d :: r => d.noX && noXe r
  | none :: r => noXe r
def noXf : Fl → Bool
  | .rt d => d.noX
  | _ => true
mutual
noncomputable def run (C : Ctx) : CS → Env → Out Fl
  | .pass => .ok .nx
  | .brk => .ok .bk
  | .cnt => .ok .ct
  | .retN => .ok (.rt .non)
  | .ret e => bd (ev C e) fun d => .ok (.rt d)
  | .retS i => fun ρ => match rdS ρ i with
    | some d => .ok (.rt d) (ρ.set i none)
    | none => .stuck
  | .drop e => bd (ev C e) fun _ => .ok .nx
  | .asg tg e => bd (ev C e) fun d ρ => match asgT tg d ρ with
    | some ρ' => .ok .nx ρ'
    | none => .stuck
  | .par is es => bd (evo C es) fun ds ρ => match ordD ρ is ds with
    | some ρ' => .ok .nx ρ'
    | none => .stuck
  | .mov i j => fun ρ => match rdS ρ j with
    | some d => if decide (i < ρ.length) && decide (i ≠ j) then .ok .nx ((ρ.set j none).set i (some d)) else .stuck
    | none => .stuck
  | .aug i p e => fun ρ => match rdS ρ i with
    | some (.int a) => bd (ev C e) (fun d ρ' => match d with
      | .int b => match pr C.T p [.int a, .int b] with
        | some (.int r) => .ok .nx (ρ'.set i (some (.int r)))
        | _ => .stuck
      | _ => .stuck) ρ
    | _ => .stuck
  | .setI i k e => bd (ev C e) fun d ρ1 => if ownAt ρ1 i then bd (ev C k) (fun x ρ => setSlot ρ i ((rdS ρ i).bind fun o => setItemD o x.fr d.fr)) ρ1 else .stuck
  | .setA f e => bd (ev C e) fun d ρ => setSlot ρ 0 ((rdS ρ 0).bind fun o => setAttrD C.T o f d.fr)
  | .app i e => fun ρ1 => if isLst ρ1 i then bd (ev C e) (fun d ρ => setSlot ρ i ((rdS ρ i).bind fun o => appD o d.fr)) ρ1 else .stuck
  | .ext i e => fun ρ1 => if isLst ρ1 i then bd (ev C e) (fun d ρ => setSlot ρ i ((rdS ρ i).bind fun o => extD o d.fr)) ρ1 else .stuck
  | .iff t a b => bd (truM (ev C t)) fun x => if x then runs C a else runs C b
  | .whl t b => whileD (truM (ev C t)) (runs C b)
  | .for tg w src b => bd (evs C src) fun as ρ => match (ard ρ as).bind (walkD w) with
    | none => .stuck
    | some ds => forL (sameB ρ as) (asgT tg) (runs C b) ds ρ
  | .raise K es => bd (evs C es) fun as ρ => match ardD as, C.T K with
    | some ds, some c => if decide (ds.length = c.fields.length) && c.exc then .exc (.exc K ds) ρ else .stuck
    | _, _ => .stuck
  | .tryE b K i h => fun ρ => match runs C b ρ with
    | .exc (.exc K' vs) ρ1 => if isSub C.T K' K then
        (if i < ρ1.length then (match runs C h (ρ1.set i (some (.exc K' vs))) with
          | .ok f ρ2 => if noXe (ρ2.set i none) && noXf f then .ok f (ρ2.set i none) else .stuck
          | _ => .stuck) else .stuck)
      else .exc (.exc K' vs) ρ1
    | o => o
  | .tryO b K h => fun ρ => match runs C b ρ with
    | .exc (.exc K' vs) ρ1 => if isSub C.T K' K then
        (match runs C h ρ1 with
          | .ok f ρ2 => if noXe ρ2 && noXf f then .ok f ρ2 else .stuck
          | _ => .stuck)
      else .exc (.exc K' vs) ρ1
    | o => o
noncomputable def runs (C : Ctx) : CSs → Env → Out Fl
  | .nil => .ok .nx
  | .cons s r => bd (run C s) fun f => match f with
    | .nx => runs C r
    | f => .ok f
  | .frz i r => fun ρ => match rdS ρ i with
    | some d => runs C r (ρ.set i (some d.fr))
    | none => .stuck
end
/-- what was handed over to be changed, at the end -/
def outsOf (ρ : Env) : Nat → List D → Option (List (Option D))
  | _, [] => some []
  | j, d :: ds => if d.own then match rdS ρ j with
      | some x => if x.own then (outsOf ρ (j + 1) ds).map (some x :: ·) else none
      | none => none
    else (outsOf ρ (j + 1) ds).map (none :: ·)
/-- a body's end -/
def finF (ds : List D) : Out Fl → FOut
  | .ok f ρ => match outsOf ρ 0 ds with
    | some outs => match f with
      | .nx => .ok .non outs
      | .rt d => .ok d outs
      | _ => .stuck
    | none => .stuck
  | .exc e ρ => match outsOf ρ 0 ds with
    | some outs => .exc e outs
    | none => .stuck
  | .stuck => .stuck
/-- only what may be changed is handed over to be changed -/
def ioOk (io : List Nat) : Nat → List D → Bool
  | _, [] => true
  | j, d :: ds => (!d.own || io.contains j) && ioOk io (j + 1) ds
def startE (d : Fn) (ds : List D) : Env := ds.map some ++ List.replicate (d.n - d.ps) none
noncomputable def bodyF (C : Ctx) (d : Fn) (ds : List D) : FOut :=
  if decide (ds.length = d.ps) && ioOk d.io 0 ds then finF ds (runs C d.body (startE d ds)) else .stuck
/-- the k-th level: calls within calls, k deep -/
noncomputable def callF (T : ClsT) (gv : Nat → Option D) (tb : Tbl) : Nat → Nat → List D → FOut
  | 0 => fun _ _ => .stuck
  | k + 1 => fun f ds => match tb f with
    | some (.fn d) => bodyF ⟨T, gv, callF T gv tb k, fun g c => match tb g with
        | some (.fn d) => finF [] (runs ⟨T, gv, callF T gv tb k, fun _ _ => .stuck, c⟩ d.body (List.replicate d.n none))
        | _ => .stuck, .stuck⟩ d ds
    | some (.cls K) => match T K with
      | some c => match callF T gv tb k c.init (.ins true K [] :: ds) with
        | .ok .non (some o :: r) => .ok o r
        | .exc e (some _ :: r) => .exc e r
        | _ => .stuck
      | none => .stuck
    | none => .stuck
end PI
/-! PI, part b: how plain data stands in a heap. -/
namespace PI
open PySem PySem.Spec L2

/-- what is known of the module: the written part, the classes, where the defs and classes stand -/
structure Txt where
  K : PySem.W.Frag
  T : ClsT
  fa : Nat → Option Addr
  ca : Nat → Addr
  tabs : List (Addr × Str)
/-- a tuple of the written part -/
def KT (K : PySem.W.Frag) (a : Addr) (xs : List V) : Prop :=
  ∃ (o : Obj) (its : Array Value) (n : Nat), K.lookup a = some o ∧ o.cls = .type "tuple" ∧ o.data = .seq its n ∧ its.size ≤ sizeLine ∧ Vals xs its.toList
/-- the parts of a name's class -/
def flds (c : Cls) (vs : List V) : List (Str × V) := c.fields.zip vs

section
variable (G : Txt) (pn : List (Addr × Obj)) (O : Addr → Prop) (H : Hp)
mutual
/-- the value v stands for d; whatever may be changed within is of no one (not in O), and is changed no more -/
def RelD : D → V → Prop
  | .non, v => v = .non
  | .bl b, v => v = .bl b
  | .int i, v => v = .int i
  | .str x, v => v = .str x
  | .tup xs, v => ∃ a vs, v = .ref a ∧ ((¬ O a ∧ H a = some (.tup vs)) ∨ KT G.K a vs) ∧ RelDs xs vs
  | .lst o xs, v => o = false ∧ ∃ a vs, v = .ref a ∧ ¬ O a ∧ H a = some (.lst vs) ∧ RelDs xs vs
  | .scr ns, v => ∃ a o, v = .ref a ∧ ¬ O a ∧ H a = some (.frz o (.lst (ns.map V.int)))
  | .dic o ks ds, v => o = false ∧ ∃ a kvs, v = .ref a ∧ ¬ O a ∧ H a = some (.dK kvs) ∧ RelDs ks (kvs.map fun p => kV p.1) ∧ RelDs ds (kvs.map (·.2))
  | .ins o C ds, v => o = false ∧ ∃ a dx c vs, v = .ref a ∧ ¬ O a ∧ G.T C = some c ∧ H a = some (.ins (G.ca C) dx (flds c vs)) ∧ vs.length ≤ c.fields.length ∧ RelDs ds vs
  | .fn f, v => ∃ a, v = .ref a ∧ G.fa f = some a
  | .exc C ds, v => ∃ a oe dd c, v = .ref a ∧ (a, oe) ∈ pn ∧ G.T C = some c ∧ L2.Zc (.ref (G.ca C)) dd oe ∧ ((dd = none ∧ ds = [] ∧ c.fields = []) ∨ ∃ d vs fs, dd = some d ∧ ¬ O d ∧ H d = some (.xd fs) ∧ (∀ f, fs.lookup f = (flds c vs).lookup f) ∧ vs.length = c.fields.length ∧ RelDs ds vs)
def RelDs : List D → List V → Prop
  | [], vs => vs = []
  | d :: ds, vs => ∃ v r, vs = v :: r ∧ RelD d v ∧ RelDs ds r
end
/-- the same, whoever may change the thing itself -/
def BodyR : D → V → Prop
  | .lst _ xs, v => ∃ a vs, v = .ref a ∧ H a = some (.lst vs) ∧ RelDs G pn O H xs vs
  | .dic _ ks ds, v => ∃ a kvs, v = .ref a ∧ H a = some (.dK kvs) ∧ RelDs G pn O H ks (kvs.map fun p => kV p.1) ∧ RelDs G pn O H ds (kvs.map (·.2))
  | .ins _ C ds, v => ∃ a dx c vs, v = .ref a ∧ G.T C = some c ∧ H a = some (.ins (G.ca C) dx (flds c vs)) ∧ vs.length ≤ c.fields.length ∧ RelDs G pn O H ds vs
  | d, v => RelD G pn O H d v
end

section
variable {G : Txt} {pn : List (Addr × Obj)} {O O' : Addr → Prop} {H H' : Hp}
theorem RelDs.length : ∀ {ds : List D} {vs : List V}, RelDs G pn O H ds vs → vs.length = ds.length
  | [], vs, h => by
    have h : vs = [] := h
    subst h; rfl
  | d :: ds, vs, h => by
    obtain ⟨v, r, rfl, _, h2⟩ := h
    simp [RelDs.length h2]
theorem RelDs.cons {d : D} {ds : List D} {v : V} {vs : List V} (h : RelD G pn O H d v) (t : RelDs G pn O H ds vs) : RelDs G pn O H (d :: ds) (v :: vs) := ⟨v, vs, rfl, h, t⟩
theorem RelDs.get : ∀ {ds : List D} {vs : List V} {i : Nat} {d : D}, RelDs G pn O H ds vs → ds[i]? = some d → ∃ v, vs[i]? = some v ∧ RelD G pn O H d v
  | [], _, _, _, _, e => by simp at e
  | _ :: _, _, 0, _, ⟨v, r, e1, h1, h2⟩, e => by
    subst e1
    simp at e
    subst e
    exact ⟨v, by simp, h1⟩
  | _ :: _, _, i + 1, _, ⟨v, r, e1, h1, h2⟩, e => by
    subst e1
    simp at e
    obtain ⟨u, q1, q2⟩ := RelDs.get h2 e
    exact ⟨u, by simpa using q1, q2⟩
theorem RelDs.getV : ∀ {ds : List D} {vs : List V} {i : Nat} {v : V}, RelDs G pn O H ds vs → vs[i]? = some v → ∃ d, ds[i]? = some d ∧ RelD G pn O H d v
  | [], vs, _, _, h, e => by
    have h : vs = [] := h
    subst h
    simp at e
  | d :: _, _, 0, _, ⟨v, r, e1, h1, h2⟩, e => by
    subst e1
    simp at e
    subst e
    exact ⟨d, by simp, h1⟩
  | _ :: _, _, i + 1, _, ⟨v, r, e1, h1, h2⟩, e => by
    subst e1
    simp at e
    obtain ⟨u, q1, q2⟩ := RelDs.getV h2 e
    exact ⟨u, by simpa using q1, q2⟩
theorem RelDs.append : ∀ {ds es : List D} {vs ws : List V}, RelDs G pn O H ds vs → RelDs G pn O H es ws → RelDs G pn O H (ds ++ es) (vs ++ ws)
  | [], _, vs, _, h, t => by
    have h : vs = [] := h
    subst h
    exact t
  | _ :: _, _, _, _, ⟨v, r, e1, h1, h2⟩, t => by
    subst e1
    exact ⟨v, _, rfl, h1, RelDs.append h2 t⟩
theorem RelDs.take : ∀ {ds : List D} {vs : List V} (n : Nat), RelDs G pn O H ds vs → RelDs G pn O H (ds.take n) (vs.take n)
  | _, _, 0, _ => by simp [RelDs]
  | [], vs, _ + 1, h => by
    have h : vs = [] := h
    subst h
    simp [RelDs]
  | _ :: _, _, n + 1, ⟨v, r, e1, h1, h2⟩ => by
    subst e1
    exact ⟨v, _, rfl, h1, RelDs.take n h2⟩
theorem RelDs.drop : ∀ {ds : List D} {vs : List V} (n : Nat), RelDs G pn O H ds vs → RelDs G pn O H (ds.drop n) (vs.drop n)
  | _, _, 0, h => h
  | [], vs, _ + 1, h => by
    have h : vs = [] := h
    subst h
    simp [RelDs]
  | _ :: _, _, n + 1, ⟨v, r, e1, h1, h2⟩ => by
    subst e1
    exact RelDs.drop n h2
theorem RelDs.set : ∀ {ds : List D} {vs : List V} (n : Nat) {d : D} {v : V}, RelDs G pn O H ds vs → RelD G pn O H d v → RelDs G pn O H (ds.set n d) (vs.set n v)
  | [], vs, _, _, _, h, _ => by
    have h : vs = [] := h
    subst h
    simp [RelDs]
  | _ :: _, _, 0, _, _, ⟨v, r, e1, h1, h2⟩, t => by
    subst e1
    exact ⟨_, _, rfl, t, h2⟩
  | _ :: _, _, n + 1, _, _, ⟨v, r, e1, h1, h2⟩, t => by
    subst e1
    exact ⟨_, _, rfl, h1, RelDs.set n h2 t⟩
theorem RelDs.reverse {ds : List D} {vs : List V} (h : RelDs G pn O H ds vs) : RelDs G pn O H ds.reverse vs.reverse := by
  induction ds generalizing vs with
  | nil =>
    have h : vs = [] := h
    subst h
    simp [RelDs]
  | cons d ds ih =>
    obtain ⟨v, r, e1, h1, h2⟩ := h
    subst e1
    rw [List.reverse_cons, List.reverse_cons]
    exact RelDs.append (ih h2) ⟨v, [], rfl, h1, rfl⟩
theorem RelDs.rep {ds : List D} {vs : List V} (h : RelDs G pn O H ds vs) : ∀ k : Nat, RelDs G pn O H (List.replicate k ds).flatten (List.replicate k vs).flatten
  | 0 => by simp [RelDs]
  | k + 1 => by
    rw [List.replicate_succ, List.replicate_succ, List.flatten_cons, List.flatten_cons]
    exact RelDs.append h (RelDs.rep h k)

/-- all but what is in L stands (the tables of code objects may grow) -/
structure Kp (L : Addr → Prop) (H H' : Hp) : Prop where
  keep : ∀ b o, H b = some o → ¬ L b → (∀ ps, o ≠ .tbl ps) → H' b = some o
  tb : ∀ b ps, H b = some (.tbl ps) → ∃ ps', H' b = some (.tbl ps')
abbrev Ext (H H' : Hp) : Prop := ∀ b o, H b = some o → H' b = some o
theorem Kp.same {L : Addr → Prop} {H H1 : Hp} (a : Ext H H1) : Kp L H H1 := ⟨fun c o e _ _ => a c o e, fun c ps e => ⟨ps, a c _ e⟩⟩
theorem Kp.refl {L : Addr → Prop} {H : Hp} : Kp L H H := Kp.same fun _ _ h => h
theorem Kp.trans {L : Addr → Prop} {H H1 H2 : Hp} (a : Kp L H H1) (b : Kp L H1 H2) : Kp L H H2 := ⟨fun c o h n t => b.keep c o (a.keep c o h n t) n t, fun c ps e => let ⟨ps', e'⟩ := a.tb c ps e; b.tb c ps' e'⟩
theorem Kp.mono {L L' : Addr → Prop} {H H1 : Hp} (a : Kp L H H1) (h : ∀ b, L b → L' b) : Kp L' H H1 := ⟨fun c o e n t => a.keep c o e (fun q => n (h c q)) t, a.tb⟩
theorem Ext.new {H : Hp} {p : Addr} {o : HO} (h : H p = none) : Ext H (upd H p o) := fun b u e => by rw [upd_ne (ne_of_none e h)]; exact e
theorem Ext.refl (H : Hp) : Ext H H := fun _ _ h => h
theorem Ext.trans {H H1 H2 : Hp} (a : Ext H H1) (b : Ext H1 H2) : Ext H H2 := fun c o h => b c o (a c o h)
theorem Ext.back {H H1 : Hp} (a : Ext H H1) {p : Addr} (h : H1 p = none) : H p = none := by
  cases e : H p with
  | none => rfl
  | some o => rw [a p o e] at h; cases h
theorem Kp.back {L : Addr → Prop} {H H1 : Hp} (a : Kp L H H1) (hl : ∀ b, L b → H1 b ≠ none) {p : Addr} (h : H1 p = none) : H p = none := by
  cases e : H p with
  | none => rfl
  | some o =>
    by_cases q : L p
    · exact absurd h (hl p q)
    · by_cases t : ∀ ps, o ≠ .tbl ps
      · rw [a.keep p o e q t] at h
        cases h
      · have t' : ∃ ps, o = .tbl ps := Classical.byContradiction fun z => t fun ps e => z ⟨ps, e⟩
        obtain ⟨ps, t'⟩ := t'
        rw [t'] at e
        obtain ⟨ps', e'⟩ := a.tb p ps e
        rw [e'] at h
        cases h

theorem notO (n : ∀ b, O' b → O b ∨ H b = none) {a : Addr} {o : HO} (h1 : ¬ O a) (h2 : H a = some o) : ¬ O' a := fun q => (n a q).elim h1 fun z => by
  rw [z] at h2
  cases h2
theorem RelD.sqT {xs : List D} {v : V} (h : RelD G pn O H (.tup xs) v) : ∃ a vs, v = .ref a ∧ SqT G.K H a vs ∧ RelDs G pn O H xs vs := by
  obtain ⟨a, vs, e, h1, h2⟩ := h
  rcases h1 with ⟨_, h1⟩ | h1
  · exact ⟨a, vs, e, .inl (.inl h1), h2⟩
  · exact ⟨a, vs, e, .inr h1, h2⟩
mutual
/-- H' keeps what is not in O; O' has beyond O only what was not there -/
theorem RelD.mono (k : Kp O H H') (n : ∀ b, O' b → O b ∨ H b = none) : ∀ (d : D) (v : V), RelD G pn O H d v → RelD G pn O' H' d v
  | .non, _, h => h
  | .bl _, _, h => h
  | .int _, _, h => h
  | .str _, _, h => h
  | .tup xs, _, ⟨a, vs, e, h1, h3⟩ => ⟨a, vs, e, h1.imp_left fun h => ⟨notO n h.1 h.2, k.keep _ _ h.2 h.1 (fun _ z => nomatch z)⟩, RelDs.mono k n xs vs h3⟩
  | .lst o xs, _, ⟨e0, a, vs, e, h1, h2, h3⟩ => ⟨e0, a, vs, e, notO n h1 h2, k.keep _ _ h2 h1 (fun _ z => nomatch z), RelDs.mono k n xs vs h3⟩
  | .scr ns, _, ⟨a, o, e, h1, h2⟩ => ⟨a, o, e, notO n h1 h2, k.keep _ _ h2 h1 (fun _ z => nomatch z)⟩
  | .dic o ks ds, _, ⟨e0, a, kvs, e, h1, h2, h3, h4⟩ => ⟨e0, a, kvs, e, notO n h1 h2, k.keep _ _ h2 h1 (fun _ z => nomatch z), RelDs.mono k n ks _ h3, RelDs.mono k n ds _ h4⟩
  | .ins o C ds, _, ⟨e0, a, dx, c, vs, e, h1, ht, h2, h3, h4⟩ => ⟨e0, a, dx, c, vs, e, notO n h1 h2, ht, k.keep _ _ h2 h1 (fun _ z => nomatch z), h3, RelDs.mono k n ds _ h4⟩
  | .fn _, _, h => h
  | .exc C ds, _, ⟨a, oe, dd, c, e, hp, ht, hz, h⟩ => ⟨a, oe, dd, c, e, hp, ht, hz, match h with
    | .inl h => .inl h
    | .inr ⟨d, vs, fs, ed, h1, h2, h3, h4, h5⟩ => .inr ⟨d, vs, fs, ed, notO n h1 h2, k.keep _ _ h2 h1 (fun _ z => nomatch z), h3, h4, RelDs.mono k n ds _ h5⟩⟩
theorem RelDs.mono (k : Kp O H H') (n : ∀ b, O' b → O b ∨ H b = none) : ∀ (ds : List D) (vs : List V), RelDs G pn O H ds vs → RelDs G pn O' H' ds vs
  | [], _, h => h
  | d :: ds, _, ⟨v, r, e, h1, h2⟩ => ⟨v, r, e, RelD.mono k n d v h1, RelDs.mono k n ds r h2⟩
end
/-- fewer things are someone's -/
theorem RelD.less {d : D} {v : V} (h : RelD G pn O H d v) (n : ∀ b, O' b → O b) : RelD G pn O' H d v := RelD.mono Kp.refl (fun b q => .inl (n b q)) d v h
theorem RelDs.less {d : List D} {v : List V} (h : RelDs G pn O H d v) (n : ∀ b, O' b → O b) : RelDs G pn O' H d v := RelDs.mono Kp.refl (fun b q => .inl (n b q)) d v h
theorem RelD.body {d : D} {v : V} (h : RelD G pn O H d v) : BodyR G pn O H d v := by
  cases d with
  | lst o xs => obtain ⟨_, a, vs, e, _, h2, h3⟩ := h; exact ⟨a, vs, e, h2, h3⟩
  | dic o ks ds => obtain ⟨_, a, vs, e, _, h2, h3⟩ := h; exact ⟨a, vs, e, h2, h3⟩
  | ins o C ds => obtain ⟨_, a, dx, c, vs, e, _, ht, h2, h3⟩ := h; exact ⟨a, dx, c, vs, e, ht, h2, h3⟩
  | _ => exact h
theorem RelD.fr_eq {d : D} {v : V} (h : RelD G pn O H d v) : d.fr = d := by
  cases d with
  | lst o xs => obtain ⟨e, _⟩ := h; subst e; rfl
  | dic o ks ds => obtain ⟨e, _⟩ := h; subst e; rfl
  | ins o C ds => obtain ⟨e, _⟩ := h; subst e; rfl
  | _ => rfl
theorem RelD.notown {d : D} {v : V} (h : RelD G pn O H d v) : d.own = false := by
  cases d with
  | lst o xs => obtain ⟨e, _⟩ := h; exact e
  | dic o ks ds => obtain ⟨e, _⟩ := h; exact e
  | ins o C ds => obtain ⟨e, _⟩ := h; exact e
  | _ => rfl
theorem D.fr_own (d : D) : d.fr.own = false := by cases d <;> rfl
/-- the address of what is someone's -/
theorem BodyR.ref {d : D} {v : V} (h : BodyR G pn O H d v) (ho : d.own = true) : ∃ a, v = .ref a := by
  cases d with
  | lst o xs => obtain ⟨a, vs, e, _⟩ := h; exact ⟨a, e⟩
  | dic o ks ds => obtain ⟨a, vs, e, _⟩ := h; exact ⟨a, e⟩
  | ins o C ds => obtain ⟨a, dx, c, vs, e, _⟩ := h; exact ⟨a, e⟩
  | _ => cases ho
theorem BodyR.there {d : D} {a : Addr} (h : BodyR G pn O H d (.ref a)) (ho : d.own = true) : ∃ o, H a = some o ∧ (∀ ps, o ≠ .tbl ps) ∧ Mut (some o) := by
  cases d with
  | lst o xs => obtain ⟨a', vs, e, h1, _⟩ := h; cases e; exact ⟨_, h1, (fun ps z => nomatch z), trivial⟩
  | dic o ks ds => obtain ⟨a', vs, e, h1, _⟩ := h; cases e; exact ⟨_, h1, (fun ps z => nomatch z), trivial⟩
  | ins o C ds => obtain ⟨a', dx, c, vs, e, _, h1, _⟩ := h; cases e; exact ⟨_, h1, (fun ps z => nomatch z), trivial⟩
  | _ => cases ho
/-- frozen from here on -/
theorem BodyR.freeze {d : D} {v : V} (h : BodyR G pn O H d v) (n : ∀ a, v = .ref a → d.own = true → ¬ O a) (hf : d.own = false → RelD G pn O H d v) : RelD G pn O H d.fr v := by
  cases ho : d.own with
  | false =>
    have q := hf ho
    rw [q.fr_eq]
    exact q
  | true =>
    cases d with
    | lst o xs =>
      obtain ⟨a, vs, e, h1, h2⟩ := h
      exact ⟨rfl, a, vs, e, n a e ho, h1, h2⟩
    | dic o ks ds =>
      obtain ⟨a, vs, e, h1, h2⟩ := h
      exact ⟨rfl, a, vs, e, n a e ho, h1, h2⟩
    | ins o C ds =>
      obtain ⟨a, dx, c, vs, e, ht, h1, h2⟩ := h
      exact ⟨rfl, a, dx, c, vs, e, n a e ho, ht, h1, h2⟩
    | _ => cases ho
theorem BodyR.fr {d : D} {v : V} (h : BodyR G pn O H d v) : BodyR G pn O H d.fr v := by
  cases d <;> exact h
theorem BodyR.mono {d : D} {v : V} (h : BodyR G pn O H d v) (k : Kp O H H') (n : ∀ b, O' b → O b ∨ H b = none) (ka : ∀ a o, v = .ref a → d.own = true → H a = some o → H' a = some o) (hf : d.own = false → RelD G pn O H d v) : BodyR G pn O' H' d v := by
  cases ho : d.own with
  | false => exact (RelD.mono k n d v (hf ho)).body
  | true =>
    cases d with
    | lst o xs =>
      obtain ⟨a, vs, e, h1, h2⟩ := h
      exact ⟨a, vs, e, ka a _ e ho h1, RelDs.mono k n _ _ h2⟩
    | dic o ks ds =>
      obtain ⟨a, vs, e, h1, h2, h3⟩ := h
      exact ⟨a, vs, e, ka a _ e ho h1, RelDs.mono k n _ _ h2, RelDs.mono k n _ _ h3⟩
    | ins o C ds =>
      obtain ⟨a, dx, c, vs, e, ht, h1, h2, h3⟩ := h
      exact ⟨a, dx, c, vs, e, ht, ka a _ e ho h1, h2, RelDs.mono k n _ _ h3⟩
    | _ => cases ho
end

/-! ### the frame -/
/-- the name i holds what is its alone, at a -/
def OwnA (ρ : Env) (σ : L2.St) (i : Nat) (a : Addr) : Prop := ownAt ρ i = true ∧ σ[i]? = some (some (.ref a))
def Lo (ρ : Env) (σ : L2.St) (a : Addr) : Prop := ∃ i, OwnA ρ σ i a
def Oo (Of : Addr → Prop) (ρ : Env) (σ : L2.St) (a : Addr) : Prop := Of a ∨ Lo ρ σ a
theorem rdS_some {ρ : Env} {i : Nat} {d : D} : rdS ρ i = some d ↔ ρ[i]? = some (some d) := by
  unfold rdS
  split
  · rename_i d' e
    rw [e]
    simp
  · rename_i h
    constructor
    · intro z; cases z
    · intro z; exact absurd z (h d)
theorem ownAt_some {ρ : Env} {i : Nat} {d : D} (h : rdS ρ i = some d) : ownAt ρ i = d.own := by
  unfold ownAt
  rw [h]
theorem ownAt_true {ρ : Env} {i : Nat} (h : ownAt ρ i = true) : ∃ d, rdS ρ i = some d ∧ d.own = true := by
  unfold ownAt at h
  cases e : rdS ρ i with
  | none => rw [e] at h; cases h
  | some d => rw [e] at h; exact ⟨d, rfl, h⟩
/-- the frame's names stand for ρ -/
structure SR (G : Txt) (pn : List (Addr × Obj)) (Of : Addr → Prop) (H : Hp) (ρ : Env) (σ : L2.St) : Prop where
  len : ρ.length = σ.length
  rel : ∀ i d, rdS ρ i = some d → ∃ v, σ[i]? = some (some v) ∧ BodyR G pn (Oo Of ρ σ) H d v ∧ (d.own = false → RelD G pn (Oo Of ρ σ) H d v)
  inj : ∀ i j a, OwnA ρ σ i a → OwnA ρ σ j a → i = j
  dis : ∀ a, Lo ρ σ a → ¬ Of a
  oft : ∀ a, Of a → ∃ o, H a = some o ∧ ∀ ps, o ≠ .tbl ps
  tab : LamX.Tabs G.tabs H
section
variable {G : Txt} {pn : List (Addr × Obj)} {Of Of' : Addr → Prop} {H H' : Hp} {ρ ρ' : Env} {σ σ' : L2.St}
theorem SR.own (S : SR G pn Of H ρ σ) {a : Addr} (h : Lo ρ σ a) : ∃ i d, rdS ρ i = some d ∧ d.own = true ∧ σ[i]? = some (some (.ref a)) ∧ BodyR G pn (Oo Of ρ σ) H d (.ref a) := by
  obtain ⟨i, h1, h2⟩ := h
  obtain ⟨d, e, ho⟩ := ownAt_true h1
  obtain ⟨v, hv, hb, _⟩ := S.rel i d e
  rw [h2] at hv
  cases hv
  exact ⟨i, d, e, ho, h2, hb⟩
theorem SR.lot (S : SR G pn Of H ρ σ) {a : Addr} (h : Lo ρ σ a) : ∃ o, H a = some o ∧ ∀ ps, o ≠ .tbl ps := by
  obtain ⟨i, d, _, ho, _, hb⟩ := S.own h
  obtain ⟨o, e, t, _⟩ := hb.there ho
  exact ⟨o, e, t⟩
theorem SR.oot (S : SR G pn Of H ρ σ) {a : Addr} (h : Oo Of ρ σ a) : ∃ o, H a = some o ∧ ∀ ps, o ≠ .tbl ps := h.elim (S.oft a) S.lot
/-- the same names are owners -/
def SameOwn (ρ ρ' : Env) : Prop := ∀ i, ownAt ρ' i = ownAt ρ i
theorem SameOwn.refl (ρ : Env) : SameOwn ρ ρ := fun _ => rfl
theorem SameOwn.trans {ρ1 ρ2 ρ3 : Env} (a : SameOwn ρ1 ρ2) (b : SameOwn ρ2 ρ3) : SameOwn ρ1 ρ3 := fun i => (b i).trans (a i)
theorem SameOwn.lo (s : SameOwn ρ ρ') : Lo ρ' σ = Lo ρ σ := by
  funext a
  unfold Lo OwnA
  simp only [s _]
theorem SameOwn.oo (s : SameOwn ρ ρ') : Oo Of ρ' σ = Oo Of ρ σ := by
  funext a
  unfold Oo
  rw [s.lo]
/-- fewer things are others' -/
theorem SR.less (S : SR G pn Of H ρ σ) (h : ∀ a, Of' a → Of a) : SR G pn Of' H ρ σ where
  len := S.len
  rel := fun i d e => by
    obtain ⟨v, h1, h2, h3⟩ := S.rel i d e
    have n : ∀ b, Oo Of' ρ σ b → Oo Of ρ σ b := fun b q => q.elim (fun z => .inl (h b z)) .inr
    exact ⟨v, h1, h2.mono Kp.refl (fun b q => .inl (n b q)) (fun _ _ _ _ z => z) h3, fun z => (h3 z).less n⟩
  inj := S.inj
  dis := fun a q z => S.dis a q (h a z)
  oft := fun a q => S.oft a (h a q)
  tab := S.tab
/-- more is in the heap; what is ours stands -/
theorem SR.grow (S : SR G pn Of H ρ σ) (k : Ext H H') : SR G pn Of H' ρ σ where
  len := S.len
  rel := fun i d e => by
    obtain ⟨v, h1, h2, h3⟩ := S.rel i d e
    have kk : Kp (Oo Of ρ σ) H H' := Kp.same k
    refine ⟨v, h1, h2.mono kk (fun b q => .inl q) (fun a o e1 ho e2 => ?_) h3, fun z => RelD.mono kk (fun b q => .inl q) _ _ (h3 z)⟩
    subst e1
    obtain ⟨o', q1, q2, _⟩ := h2.there ho
    rw [q1] at e2
    obtain rfl : o' = o := Option.some.inj e2
    exact k a _ q1
  inj := S.inj
  dis := S.dis
  oft := fun a q => by
    obtain ⟨o, e, t⟩ := S.oft a q
    exact ⟨o, k a o e, t⟩
  tab := S.tab.ext k
end
end PI
/-! PI, part c: what it is that an expression computes what its core does. -/
namespace PI
open PySem PySem.Spec L2

/-- an exception of the class cls, its dict at dd, stands for e -/
def ExcR (G : Txt) (pn : List (Addr × Obj)) (O : Addr → Prop) (H : Hp) (e : D) (cls : Value) (dd : Option Addr) : Prop :=
  ∃ C ds c, e = .exc C ds ∧ G.T C = some c ∧ cls = .ref (G.ca C) ∧ ((dd = none ∧ ds = [] ∧ c.fields = []) ∨ ∃ d vs fs, dd = some d ∧ ¬ O d ∧ H d = some (.xd fs) ∧ (∀ f, fs.lookup f = (flds c vs).lookup f) ∧ vs.length = c.fields.length ∧ RelDs G pn O H ds vs)
abbrev RT (α β : Type) := (Addr → Prop) → Env → L2.St → Hp → Hp → α → β → Prop
/-- behind an evaluation: Q of every outcome -/
def PostG {α β : Type} (G : Txt) (pn : List (Addr × Obj)) (W : WX) (R : RT α β) (Of : Addr → Prop) (H : Hp) (ρ : Env) (σ : L2.St) (o : Out α) (Q : β → Hp → Prop) : Prop := match o with
  | .ok a ρ' => ∀ b H', Kp (Lo ρ σ) H H' → SameOwn ρ ρ' → SR G pn Of H' ρ' σ → R Of ρ' σ H H' a b → Q b H'
  | .exc e ρ' => ∀ H' cls dd, Kp (Lo ρ σ) H H' → SameOwn ρ ρ' → SR G pn Of H' ρ' σ → ExcR G pn (Oo Of ρ' σ) H' e cls dd → W cls dd σ H'
  | .stuck => False
def tG {α β : Type} (G : Txt) (pn : List (Addr × Obj)) (W : WX) (R : RT α β) (f : Env → Out α) : L2.St → Hp → (β → Hp → Prop) → Prop := fun σ H Q => ∃ Of ρ, SR G pn Of H ρ σ ∧ PostG G pn W R Of H ρ σ (f ρ) Q
/-- the value of an expression -/
def ValR (G : Txt) (pn : List (Addr × Obj)) : RT D V := fun Of ρ' σ H H' d v =>
  (d.own = false → RelD G pn (Oo Of ρ' σ) H' d v) ∧ (d.own = true → ∃ a, v = .ref a ∧ H a = none ∧ SR G pn (fun b => Of b ∨ b = a) H' ρ' σ ∧ BodyR G pn (Oo (fun b => Of b ∨ b = a) ρ' σ) H' d v)
def ArR (G : Txt) (pn : List (Addr × Obj)) : RT Ar V := fun Of ρ' σ _ H' x v => match x with
  | .d x => RelD G pn (Oo Of ρ' σ) H' x v
  | .b i => σ[i]? = some (some v)
  | .io i => σ[i]? = some (some v)
def ArsR (G : Txt) (pn : List (Addr × Obj)) : RT (List Ar) (List V) := fun Of ρ' σ H H' xs vs => Paired (fun x v => ArR G pn Of ρ' σ H H' x v) xs vs
def BoR : RT Bool Bool := fun _ _ _ _ _ a b => b = a
/-- what is told of the way from H is told from an earlier heap, too -/
def BackR {α β : Type} (R : RT α β) : Prop := ∀ Of ρ' σ H H1 H' a b, (∀ p, H1 p = none → H p = none) → R Of ρ' σ H1 H' a b → R Of ρ' σ H H' a b
section
variable {G : Txt} {pn : List (Addr × Obj)} {W : WX} {Of : Addr → Prop} {H H1 H' : Hp} {ρ ρ1 ρ' : Env} {σ : L2.St}
theorem back_val : BackR (ValR G pn) := fun Of ρ' σ H H1 H' d v b h => ⟨h.1, fun z => let ⟨a, h1, h2, h3, h4⟩ := h.2 z; ⟨a, h1, b a h2, h3, h4⟩⟩
theorem back_ar : BackR (ArR G pn) := fun Of ρ' σ H H1 H' d v b h => h
theorem back_ars : BackR (ArsR G pn) := fun Of ρ' σ H H1 H' d v b h => h
theorem back_bo : BackR BoR := fun _ _ _ _ _ _ _ _ _ h => h
theorem PostG.shift {α β : Type} {R : RT α β} {o : Out α} {Q : β → Hp → Prop} (hR : BackR R) (S1 : SR G pn Of H1 ρ1 σ) (k : Kp (Lo ρ σ) H H1) (s : SameOwn ρ ρ1) (h : PostG G pn W R Of H ρ σ o Q) : PostG G pn W R Of H1 ρ1 σ o Q := by
  have el : Lo ρ1 σ = Lo ρ σ := s.lo
  have bk : ∀ p, H1 p = none → H p = none := fun p e => k.back (fun b hb => by
    have := S1.lot (a := b) (by rw [el]; exact hb)
    obtain ⟨o, e, _⟩ := this
    rw [e]; simp) e
  cases o with
  | stuck => exact h
  | ok a ρ' => exact fun b H' k' s' S' r => h b H' (k.trans (by rw [← el]; exact k')) (s.trans s') S' (hR _ _ _ _ _ _ _ _ bk r)
  | exc e ρ' => exact fun H' cls dd k' s' S' r => h H' cls dd (k.trans (by rw [← el]; exact k')) (s.trans s') S' r
theorem PostG.bind {α β γ δ : Type} {R1 : RT α β} {R2 : RT γ δ} {m : Env → Out α} {f : α → Env → Out γ} {Q : δ → Hp → Prop} (hR : BackR R2) (h : PostG G pn W R2 Of H ρ σ (bd m f ρ) Q) :
    PostG G pn W R1 Of H ρ σ (m ρ) fun b H1 => ∃ a ρ1, m ρ = .ok a ρ1 ∧ Kp (Lo ρ σ) H H1 ∧ SameOwn ρ ρ1 ∧ SR G pn Of H1 ρ1 σ ∧ R1 Of ρ1 σ H H1 a b ∧ PostG G pn W R2 Of H1 ρ1 σ (f a ρ1) Q := by
  unfold bd at h
  cases e : m ρ with
  | stuck => rw [e] at h; exact h
  | exc x ρ' => rw [e] at h; exact h
  | ok a ρ1 =>
    rw [e] at h
    exact fun b H1 k s S1 r => ⟨a, ρ1, rfl, k, s, S1, r, PostG.shift hR S1 k s h⟩
theorem PostG.mono {α β : Type} {R : RT α β} {o : Out α} {Q Q' : β → Hp → Prop} (h : PostG G pn W R Of H ρ σ o Q) (hq : ∀ b H', Q b H' → Q' b H') : PostG G pn W R Of H ρ σ o Q' := by
  cases o with
  | stuck => exact h
  | ok a ρ' => exact fun b H' k s S r => hq _ _ (h b H' k s S r)
  | exc e ρ' => exact h
/-- an end that is there already -/
theorem PostG.now {α β : Type} {R : RT α β} {a : α} {b : β} {Q : β → Hp → Prop} (S : SR G pn Of H ρ σ) (r : R Of ρ σ H H a b) (h : PostG G pn W R Of H ρ σ (.ok a ρ) Q) : Q b H := h b H Kp.refl (SameOwn.refl ρ) S r
/-- .. with new things in the heap -/
theorem PostG.now' {α β : Type} {R : RT α β} {a : α} {b : β} {Q : β → Hp → Prop} (S : SR G pn Of H ρ σ) (e : Ext H H') (r : R Of ρ σ H H' a b) (h : PostG G pn W R Of H ρ σ (.ok a ρ) Q) : Q b H' := h b H' (Kp.same e) (SameOwn.refl ρ) (S.grow e) r
/-- a value is frozen -/
theorem ValR.fr {d : D} {v : V} (S : SR G pn Of H ρ σ) (h : ValR G pn Of ρ' σ H H' d v) : RelD G pn (Oo Of ρ' σ) H' d.fr v := by
  cases ho : d.own with
  | false =>
    have q := h.1 ho
    rw [q.fr_eq]
    exact q
  | true =>
    obtain ⟨a, e, n, S', hb⟩ := h.2 ho
    have q : RelD G pn (Oo Of ρ' σ) H' d.fr v := by
      have hb' : BodyR G pn (Oo Of ρ' σ) H' d v := hb.mono Kp.refl (fun b q => .inl (q.elim (fun z => .inl (.inl z)) .inr)) (fun _ _ _ _ z => z) (fun z => by rw [ho] at z; cases z)
      refine hb'.freeze (fun a' e' _ => ?_) (fun z => by rw [ho] at z; cases z)
      rw [e] at e'
      cases e'
      rintro (z | z)
      · obtain ⟨o, q, _⟩ := S.oft a z
        rw [q] at n
        cases n
      · exact S'.dis a z (.inr rfl)
    exact q
theorem ValR.of {d : D} {v : V} (h : RelD G pn (Oo Of ρ' σ) H' d v) : ValR G pn Of ρ' σ H H' d v := ⟨fun _ => h, fun z => by rw [h.notown] at z; cases z⟩
/-- what was told stands while what is ours changes -/
theorem RelD.step {d : D} {v : V} (h : RelD G pn (Oo Of ρ σ) H d v) (k : Kp (Lo ρ σ) H H') (s : SameOwn ρ ρ') : RelD G pn (Oo Of ρ' σ) H' d v := by
  rw [s.oo]
  exact RelD.mono (k.mono fun b q => .inr q) (fun b q => .inl q) d v h
theorem RelDs.step {d : List D} {v : List V} (h : RelDs G pn (Oo Of ρ σ) H d v) (k : Kp (Lo ρ σ) H H') (s : SameOwn ρ ρ') : RelDs G pn (Oo Of ρ' σ) H' d v := by
  rw [s.oo]
  exact RelDs.mono (k.mono fun b q => .inr q) (fun b q => .inl q) d v h
theorem ArR.step {x : Ar} {v : V} {H0 H0' : Hp} (h : ArR G pn Of ρ σ H0 H x v) (k : Kp (Lo ρ σ) H H') (s : SameOwn ρ ρ') : ArR G pn Of ρ' σ H0' H' x v := by
  cases x with
  | d x => exact RelD.step h k s
  | b i => exact h
  | io i => exact h
/-- a new thing of ours alone -/
theorem SR.fresh {a : Addr} {o : HO} (S : SR G pn Of H ρ σ) (e : Ext H H') (n : H a = none) (t : H' a = some o) (nt : ∀ ps, o ≠ .tbl ps) : SR G pn (fun b => Of b ∨ b = a) H' ρ σ := by
  have S' := S.grow e
  refine ⟨S.len, fun i d h => ?_, S.inj, fun b q z => ?_, fun b q => ?_, S'.tab⟩
  · obtain ⟨v, h1, h2, h3⟩ := S.rel i d h
    have nn : ∀ b, Oo (fun b => Of b ∨ b = a) ρ σ b → Oo Of ρ σ b ∨ H b = none := fun b q => by
      rcases q with (q | q) | q
      · exact .inl (.inl q)
      · exact .inr (by rw [q]; exact n)
      · exact .inl (.inr q)
    refine ⟨v, h1, h2.mono (Kp.same e) nn (fun a' o' _ _ z => e _ _ z) h3, fun z => RelD.mono (Kp.same e) nn d v (h3 z)⟩
  · rcases z with z | z
    · exact S.dis b q z
    · obtain ⟨o', q', _⟩ := S.lot q
      rw [z, n] at q'
      cases q'
  · rcases q with q | q
    · exact S'.oft b q
    · exact ⟨o, by rw [q]; exact t, nt⟩
end

/-! ### judgements -/
section
variable (X : Cx) (G : Txt) (pn : List (Addr × Obj)) (W : WX)
def DE (e : Expr) (f : Env → Out D) : Prop := PE X e (tG G pn W (ValR G pn) f)
def DA (e : Expr) (f : Env → Out Ar) : Prop := PE X e (tG G pn W (ArR G pn) f)
def DAs (es : List Expr) (f : Env → Out (List Ar)) : Prop := PA X es (tG G pn W (ArsR G pn) f)
def DT (e : Expr) (f : Env → Out Bool) : Prop := PT X e (tG G pn W BoR f)
end
theorem PE.imp {X : Cx} {e : Expr} {t t' : TE} (h : PE X e t) (hi : ∀ σ H Q, t' σ H Q → t σ H Q) : PE X e t' := ⟨fun pins s σ H Q I hw => h.run pins s σ H Q I (hi σ H Q hw)⟩
theorem PT.imp {X : Cx} {e : Expr} {t t' : TT} (h : PT X e t) (hi : ∀ σ H Q, t' σ H Q → t σ H Q) : PT X e t' := ⟨fun pins s σ H Q I hw => h.run pins s σ H Q I (hi σ H Q hw)⟩
theorem PA.imp {X : Cx} {e : List Expr} {t t' : TA} (h : PA X e t) (hi : ∀ σ H Q, t' σ H Q → t σ H Q) : PA X e t' := ⟨fun pos pins s σ H Q I hw => h.run pos pins s σ H Q I (hi σ H Q hw)⟩
theorem PS.imp {X : Cx} {e : Stmt} {t t' : TS} (h : PS X e t) (hi : ∀ D σ H, t' D σ H → t D σ H) : PS X e t' := ⟨fun pins s σ H Q I hw => h.run pins s σ H Q I (hi Q σ H hw)⟩
theorem PSs.imp {X : Cx} {e : List Stmt} {t t' : TS} (h : PSs X e t) (hi : ∀ D σ H, t' D σ H → t D σ H) : PSs X e t' := ⟨fun pins s σ H Q I hw => h.run pins s σ H Q I (hi Q σ H hw)⟩

section
variable {X : Cx} {G : Txt} {pn : List (Addr × Obj)} {W : WX} {C : Ctx}
/-- an argument -/
theorem da_ex {e : Expr} {c : CE} (h : DE X G pn W e (ev C c)) : DA X G pn W e (eva C (.ex c)) := by
  refine PE.imp h fun σ H Q ⟨Of, ρ, S, hp⟩ => ⟨Of, ρ, S, ?_⟩
  unfold eva at hp
  exact PostG.mono (PostG.bind (R1 := ValR G pn) back_ar hp) fun v H1 ⟨d, ρ1, _, k, s, S1, r, q⟩ => PostG.now (b := v) S1 (show ArR G pn Of ρ1 _ H1 H1 (.d d.fr) v from ValR.fr S r) q
theorem da_bor {x : Str} {pos : Pos} {i : Nat} (hN : X.N[i]? = some x) (hv : Vis X.env.scope x) (hd : (x == ("__debug__" : Str)) = false) (hcd : (x == ("__classdict__" : Str)) = false) : DA X G pn W (.Name x pos) (eva C (.bor i)) := by
  refine PE.imp (pe_var hN hv hd hcd) fun σ H Q ⟨Of, ρ, S, hp⟩ => ?_
  unfold eva at hp
  cases e : rdS ρ i with
  | none => simp only [e] at hp; exact hp.elim
  | some d =>
    simp only [e] at hp
    obtain ⟨v, h1, _⟩ := S.rel i d e
    exact ⟨v, h1, PostG.now (b := v) S (show ArR G pn Of ρ σ H H (.b i) v from h1) hp⟩
theorem da_io {x : Str} {pos : Pos} {i : Nat} (hN : X.N[i]? = some x) (hv : Vis X.env.scope x) (hd : (x == ("__debug__" : Str)) = false) (hcd : (x == ("__classdict__" : Str)) = false) : DA X G pn W (.Name x pos) (eva C (.io i)) := by
  refine PE.imp (pe_var hN hv hd hcd) fun σ H Q ⟨Of, ρ, S, hp⟩ => ?_
  unfold eva at hp
  cases e : rdS ρ i with
  | none => simp only [e] at hp; exact hp.elim
  | some d =>
    simp only [e] at hp
    obtain ⟨v, h1, _⟩ := S.rel i d e
    exact ⟨v, h1, PostG.now (b := v) S (show ArR G pn Of ρ σ H H (.io i) v from h1) hp⟩
theorem das_nil : DAs X G pn W [] (evs C .nil) := PA.imp pa_nil fun σ H Q ⟨Of, ρ, S, hp⟩ => PostG.now (b := []) S (show ArsR G pn Of ρ σ H H [] [] from .nil) hp
theorem das_cons {e : Expr} {es : List Expr} {a : CA} {r : CEs} (h1 : DA X G pn W e (eva C a)) (h2 : DAs X G pn W es (evs C r)) (hs : starEach (e :: es) X.env = (false, eval e X.env) :: starEach es X.env) : DAs X G pn W (e :: es) (evs C (.cons a r)) := by
  refine PA.imp (pa_cons h1 h2 hs) fun σ H Q ⟨Of, ρ, S, hp⟩ => ⟨Of, ρ, S, ?_⟩
  unfold evs at hp
  refine PostG.mono (PostG.bind (R1 := ArR G pn) back_ars hp) fun v H1 ⟨x, ρ1, _, k, s, S1, r1, q⟩ => ⟨Of, ρ1, S1, ?_⟩
  refine PostG.mono (PostG.bind (R1 := ArsR G pn) back_ars q) fun vs H2 ⟨xs, ρ2, _, k2, s2, S2, r2, q2⟩ => ?_
  exact PostG.now (b := v :: vs) S2 (show ArsR G pn Of ρ2 σ H2 H2 (x :: xs) (v :: vs) from .cons (ArR.step r1 k2 s2) r2) q2
end
end PI
/-! PI, part d: the primitive operations. -/
namespace PI
open PySem PySem.Spec L2

/-- an operation's value: new where it is ours alone -/
def NewR (G : Txt) (pn : List (Addr × Obj)) (O : Addr → Prop) (H H' : Hp) (d : D) (v : V) : Prop :=
  (d.own = false → RelD G pn O H' d v) ∧ (d.own = true → ∃ a o, v = .ref a ∧ H a = none ∧ H' a = some o ∧ (∀ ps, o ≠ .tbl ps) ∧ BodyR G pn (fun b => O b ∨ b = a) H' d v)
def rPn (G : Txt) (pn : List (Addr × Obj)) (g : List D → Option D) : List V → Hp → VK → Prop := fun vs H Q =>
  ∃ O ds d, (∀ a, O a → H a ≠ none) ∧ Paired (BodyR G pn O H) ds vs ∧ g ds = some d ∧ ∀ v H', Ext H H' → NewR G pn O H H' d v → Q v H'
def rP2 (G : Txt) (pn : List (Addr × Obj)) (g : List D → Option D) : R2 := fun x y => rPn G pn g [x, y]
def rP1 (G : Txt) (pn : List (Addr × Obj)) (g : List D → Option D) : V → Hp → VK → Prop := fun x => rPn G pn g [x]

section
variable {G : Txt} {pn : List (Addr × Obj)} {W : WX} {O Of : Addr → Prop} {H H1 H' : Hp} {ρ ρ1 ρ' : Env} {σ : L2.St} {C : Ctx}
theorem NewR.of {d : D} {v : V} (h : RelD G pn O H d v) : NewR G pn O H H d v := ⟨fun _ => h, fun z => by rw [h.notown] at z; cases z⟩
theorem RelDs.new {ds : List D} {vs : List V} {p : Addr} {o : HO} (h : RelDs G pn O H ds vs) (n : H p = none) : RelDs G pn (fun b => O b ∨ b = p) (upd H p o) ds vs :=
  RelDs.mono (Kp.same (Ext.new n)) (fun b q => q.elim .inl fun e => .inr (by rw [e]; exact n)) _ _ h
theorem RelD.new {d : D} {v : V} {p : Addr} {o : HO} (h : RelD G pn O H d v) (n : H p = none) : RelD G pn O (upd H p o) d v :=
  RelD.mono (Kp.same (Ext.new n)) (fun b q => .inl q) _ _ h
theorem new_lst {ds : List D} {vs : List V} {p : Addr} (h : RelDs G pn O H ds vs) (n : H p = none) : NewR G pn O H (upd H p (.lst vs)) (.lst true ds) (.ref p) :=
  ⟨(fun z => by cases z), fun _ => ⟨p, _, rfl, n, upd_same, (fun _ z => nomatch z), p, vs, rfl, upd_same, h.new n⟩⟩
theorem new_tup {ds : List D} {vs : List V} {p : Addr} (hO : ∀ a, O a → H a ≠ none) (h : RelDs G pn O H ds vs) (n : H p = none) : NewR G pn O H (upd H p (.tup vs)) (.tup ds) (.ref p) :=
  ⟨fun _ => ⟨p, vs, rfl, .inl ⟨fun q => hO p q n, upd_same⟩, RelDs.less (h.new n) fun _ => .inl⟩, fun z => by cases z⟩
theorem prim_post {d : D} {Q : V → Hp → Prop} (S : SR G pn Of H ρ σ) (h : PostG G pn W (ValR G pn) Of H ρ σ (.ok d ρ) Q) (v : V) (H' : Hp) (e : Ext H H') (r : NewR G pn (Oo Of ρ σ) H H' d v) : Q v H' := by
  refine PostG.now' S e ⟨r.1, fun z => ?_⟩ h
  obtain ⟨a, o, ev, n, t, nt, b⟩ := r.2 z
  refine ⟨a, ev, n, S.fresh e n t nt, b.mono Kp.refl (fun c q => .inl ?_) (fun _ _ _ _ z => z) fun z' => by rw [z] at z'; cases z'⟩
  rcases q with (q | q) | q
  · exact .inl (.inl q)
  · exact .inr q
  · exact .inl (.inr q)
theorem SR.hO (S : SR G pn Of H ρ σ) : ∀ a, Oo Of ρ σ a → H a ≠ none := fun a q z => by
  obtain ⟨o, e, _⟩ := S.oot q
  rw [z] at e
  cases e
/-- what arguments read as -/
theorem ard_ok (S : SR G pn Of H ρ σ) : ∀ {as : List Ar} {vs : List V} {ds : List D} {H0 : Hp}, ArsR G pn Of ρ σ H0 H as vs → ard ρ as = some ds → Paired (BodyR G pn (Oo Of ρ σ) H) ds vs
  | [], _, ds, _, .nil, e => by
    cases e
    exact .nil
  | .d x :: as, _, ds, _, .cons r t, e => by
    unfold ard at e
    cases q : ard ρ as with
    | none => rw [q] at e; cases e
    | some ds' =>
      rw [q] at e
      cases e
      exact .cons (RelD.body r) (ard_ok S t q)
  | .b i :: as, _, ds, _, .cons r t, e => by
    unfold ard at e
    cases p : rdS ρ i with
    | none => rw [p] at e; cases e
    | some d =>
      simp only [p] at e
      cases q : ard ρ as with
      | none => rw [q] at e; cases e
      | some ds' =>
        rw [q] at e
        cases e
        refine .cons ?_ (ard_ok S t q)
        obtain ⟨w, h1, h2, _⟩ := S.rel i d p
        have r' : σ[i]? = some (some _) := r
        rw [h1] at r'
        cases r'
        exact h2.fr
  | .io i :: as, _, ds, _, _, e => by
    unfold ard at e
    cases e
theorem ardD_ok : ∀ {as : List Ar} {vs : List V} {ds : List D} {H0 : Hp}, ArsR G pn Of ρ σ H0 H as vs → ardD as = some ds → RelDs G pn (Oo Of ρ σ) H ds vs
  | [], _, ds, _, .nil, e => by
    cases e
    rfl
  | .d x :: as, _, ds, _, .cons r t, e => by
    unfold ardD at e
    cases q : ardD as with
    | none => rw [q] at e; cases e
    | some ds' =>
      rw [q] at e
      cases e
      exact .cons r (ardD_ok t q)
  | .b i :: as, _, ds, _, _, e => by
    unfold ardD at e
    cases e
  | .io i :: as, _, ds, _, _, e => by
    unfold ardD at e
    cases e
/-- a primitive on all its arguments -/
theorem prim_many {g : List D → Option D} {es : CEs} {H : Hp} {Q : VK} (h : tG G pn W (ValR G pn) (bd (evs C es) fun as ρ => ofO ((ard ρ as).bind g) ρ) σ H Q) : tG G pn W (ArsR G pn) (evs C es) σ H fun vs H1 => rPn G pn g vs H1 Q := by
  obtain ⟨Of, ρ, S, hp⟩ := h
  refine ⟨Of, ρ, S, PostG.mono (PostG.bind (R1 := ArsR G pn) back_val hp) fun vs H1 ⟨as, ρ1, _, k, s, S1, r, q⟩ => ?_⟩
  cases e : (ard ρ1 as).bind g with
  | none => rw [e] at q; exact (show False from q).elim
  | some d =>
    rw [e] at q
    cases e1 : ard ρ1 as with
    | none => rw [e1] at e; cases e
    | some ds =>
      rw [e1] at e
      exact ⟨_, ds, d, S1.hO, ard_ok S1 r e1, e, fun v H' x n => prim_post S1 q v H' x n⟩
theorem evs_one {m : Ar → Env → Out D} {a : CA} {ρ : Env} : bd (evs C (.cons a .nil)) (fun as ρ => match as with | [x] => m x ρ | _ => .stuck) ρ = bd (eva C a) m ρ := by
  unfold bd evs
  cases e : eva C a ρ with
  | stuck => simp [bd, e]
  | exc x ρ' => simp [bd, e]
  | ok x ρ' => simp [bd, e, evs]
/-- .. on one -/
theorem prim_one {g : List D → Option D} {a : CA} {H : Hp} {Q : VK} (h : tG G pn W (ValR G pn) (bd (evs C (.cons a .nil)) fun as ρ => ofO ((ard ρ as).bind g) ρ) σ H Q) : tG G pn W (ArR G pn) (eva C a) σ H fun x H1 => rP1 G pn g x H1 Q := by
  obtain ⟨Of, ρ, S, hp⟩ := h
  have hp' : PostG G pn W (ValR G pn) Of H ρ σ (bd (eva C a) (fun x ρ => ofO ((ard ρ [x]).bind g) ρ) ρ) Q := by
    have e : bd (evs C (.cons a .nil)) (fun as ρ => ofO ((ard ρ as).bind g) ρ) ρ = bd (eva C a) (fun x ρ => ofO ((ard ρ [x]).bind g) ρ) ρ := by
      unfold bd evs
      cases e : eva C a ρ <;> simp [bd, e, evs]
    rw [← e]
    exact hp
  refine ⟨Of, ρ, S, PostG.mono (PostG.bind (R1 := ArR G pn) back_val hp') fun v H1 ⟨x, ρ1, _, k, s, S1, r, q⟩ => ?_⟩
  cases e : (ard ρ1 [x]).bind g with
  | none => rw [e] at q; exact (show False from q).elim
  | some d =>
    rw [e] at q
    cases e1 : ard ρ1 [x] with
    | none => rw [e1] at e; cases e
    | some ds =>
      rw [e1] at e
      exact ⟨_, ds, d, S1.hO, ard_ok S1 (H0 := H1) (show ArsR G pn Of ρ1 σ H1 H1 [x] [v] from .cons r .nil) e1, e, fun v H' x n => prim_post S1 q v H' x n⟩
/-- .. on two -/
theorem prim_two {g : List D → Option D} {a b : CA} {H : Hp} {Q : VK} (h : tG G pn W (ValR G pn) (bd (evs C (.cons a (.cons b .nil))) fun as ρ => ofO ((ard ρ as).bind g) ρ) σ H Q) :
    tG G pn W (ArR G pn) (eva C a) σ H fun x H1 => tG G pn W (ArR G pn) (eva C b) σ H1 fun y H2 => rP2 G pn g x y H2 Q := by
  obtain ⟨Of, ρ, S, hp⟩ := h
  have hp' : PostG G pn W (ValR G pn) Of H ρ σ (bd (eva C a) (fun x => bd (eva C b) fun y ρ => ofO ((ard ρ [x, y]).bind g) ρ) ρ) Q := by
    have e : bd (evs C (.cons a (.cons b .nil))) (fun as ρ => ofO ((ard ρ as).bind g) ρ) ρ = bd (eva C a) (fun x => bd (eva C b) fun y ρ => ofO ((ard ρ [x, y]).bind g) ρ) ρ := by
      unfold bd evs
      cases e : eva C a ρ with
      | stuck => simp [bd, e]
      | exc x ρ' => simp [bd, e]
      | ok x ρ' =>
        simp only [bd, e, evs]
        cases e2 : eva C b ρ' <;> simp [bd, e2, evs]
    rw [← e]
    exact hp
  refine ⟨Of, ρ, S, PostG.mono (PostG.bind (R1 := ArR G pn) back_val hp') fun v H1 ⟨x, ρ1, _, k, s, S1, r, q⟩ => ⟨Of, ρ1, S1, ?_⟩⟩
  refine PostG.mono (PostG.bind (R1 := ArR G pn) back_val q) fun w H2 ⟨y, ρ2, _, k2, s2, S2, r2, q2⟩ => ?_
  cases e : (ard ρ2 [x, y]).bind g with
  | none => rw [e] at q2; exact (show False from q2).elim
  | some d =>
    rw [e] at q2
    cases e1 : ard ρ2 [x, y] with
    | none => rw [e1] at e; cases e
    | some ds =>
      rw [e1] at e
      exact ⟨_, ds, d, S2.hO, ard_ok S2 (H0 := H2) (show ArsR G pn Of ρ2 σ H2 H2 [x, y] [v, w] from .cons (ArR.step r k2 s2) (.cons r2 .nil)) e1, e, fun v H' x n => prim_post S2 q2 v H' x n⟩
end
end PI
/-! PI, part e: the operators by the library's rules. -/
namespace PI
open PySem PySem.Spec L2 PyProof.Rows

structure Cnd (X : Cx) (G : Txt) : Prop where
  K : X.K = G.K
  units : X.A.units + 65 < cLine
  guards : X.A.guards = some []
  sm : ∃ o, X.K.lookup sysModules = some o
section
variable {X : Cx} {G : Txt} {pn : List (Addr × Obj)}
theorem pair1 {R : D → V → Prop} {ds : List D} {x : V} (h : Paired R ds [x]) : ∃ a, ds = [a] ∧ R a x := by
  cases h with
  | cons h1 h2 => cases h2; exact ⟨_, rfl, h1⟩
theorem pair2 {R : D → V → Prop} {ds : List D} {x y : V} (h : Paired R ds [x, y]) : ∃ a b, ds = [a, b] ∧ R a x ∧ R b y := by
  cases h with
  | cons h1 h2 => obtain ⟨b, e, h3⟩ := pair1 h2; subst e; exact ⟨_, b, rfl, h1, h3⟩
theorem pair3 {R : D → V → Prop} {ds : List D} {x y z : V} (h : Paired R ds [x, y, z]) : ∃ a b c, ds = [a, b, c] ∧ R a x ∧ R b y ∧ R c z := by
  cases h with
  | cons h1 h2 => obtain ⟨b, c, e, h3, h4⟩ := pair2 h2; subst e; exact ⟨_, b, c, rfl, h1, h3, h4⟩
/-- a plain value -/
theorem endC {O : Addr → Prop} {H : Hp} {d : D} {v : V} {Q : VK} (q : ∀ v H', Ext H H' → NewR G pn O H H' d v → Q v H') (h : RelD G pn O H d v) : Q v H := q v H (Ext.refl H) (.of h)
theorem lineOk_le {n : Nat} (h : lineOk n = true) : n ≤ sizeLine := by
  rw [sizeLine_eq]
  exact of_decide_eq_true h
/-- operators of two ints -/
theorem o_int {f : Value → Value → Sem Value} {g : Int → Int → Option Int} (h : ∀ (i j r : Int), g i j = some r → OpR X f (fun x y H Q => x = .int i ∧ y = .int j ∧ Q (.int r) H)) : OpR X f (rP2 G pn (pInt g)) := by
  intro pins s σ H x y v u Q I rx ry ⟨O, ds, d, hO, hr, e, q⟩
  obtain ⟨a, b, rfl, ra, rb⟩ := pair2 hr
  unfold pInt at e
  split at e
  · rename_i i j e1
    cases e1
    cases e2 : g i j with
    | none => rw [e2] at e; cases e
    | some r =>
      rw [e2] at e
      cases e
      exact h i j r e2 pins s σ H x y v u Q I rx ry ⟨ra, rb, endC q (show RelD G pn O H (.int r) (.int r) from rfl)⟩
  · cases e
theorem o_sub : OpR X (binaryOp .Sub) (rP2 G pn (pr G.T .sub)) := o_int fun i j r e pins s σ H x y v u Q I rx ry ⟨e1, e2, q⟩ => by
  cases e
  exact op_sub pins s σ H x y v u Q I rx ry ⟨i, j, e1, e2, q⟩
theorem o_fdiv : OpR X (binaryOp .FloorDiv) (rP2 G pn (pr G.T .fdiv)) := o_int fun i j r e pins s σ H x y v u Q I rx ry ⟨e1, e2, q⟩ => by
  split at e
  · rename_i h
    cases e
    subst e1 e2
    obtain ⟨t, rfl⟩ := rx
    obtain ⟨t', rfl⟩ := ry
    unfold divOk at h
    rw [Bool.and_eq_true, decide_eq_true_eq, decide_eq_true_eq] at h
    exact floordiv_int h.1 ⟨.int _, H, I.tok _, ⟨_, rfl⟩, q⟩ (.inl (PyProof.noPylong_of_log2 h.2))
  · cases e
theorem o_mod : OpR X (binaryOp .Mod) (rP2 G pn (pr G.T .mod)) := o_int fun i j r e pins s σ H x y v u Q I rx ry ⟨e1, e2, q⟩ => by
  split at e
  · cases e
  · rename_i h
    cases e
    exact op_modN pins s σ H x y v u Q I rx ry ⟨i, j, e1, e2, h, q⟩
theorem powOk_to {i j : Int} (h : powOk i j = true) : CPow i j := by
  unfold powOk at h
  rw [Bool.and_eq_true, Bool.and_eq_true, decide_eq_true_eq, decide_eq_true_eq, decide_eq_true_eq] at h
  exact ⟨h.1.1, h.1.2, h.2⟩
theorem o_pow : OpR X (binaryOp .Pow) (rP2 G pn (pr G.T .pow)) := o_int fun i j r e pins s σ H x y v u Q I rx ry ⟨e1, e2, q⟩ => by
  split at e
  · rename_i h
    cases e
    exact op_pow pins s σ H x y v u Q I rx ry ⟨i, j, e1, e2, powOk_to h, q⟩
  · cases e
theorem o_shl : OpR X (binaryOp .LShift) (rP2 G pn (pr G.T .shl)) := o_int fun i j r e pins s σ H x y v u Q I rx ry ⟨e1, e2, q⟩ => by
  split at e
  · rename_i h
    cases e
    exact op_shl pins s σ H x y v u Q I rx ry ⟨i, j, e1, e2, powOk_to h, q⟩
  · cases e
/-- comparisons of two ints -/
theorem o_cmp {op : CmpOp} {p : Int → Int → Bool} (h : OpR X (compareOp op) (rI0 fun i j => .bl (p i j))) : OpR X (compareOp op) (rP2 G pn (cmpI p)) := by
  intro pins s σ H x y v u Q I rx ry ⟨O, ds, d, hO, hr, e, q⟩
  obtain ⟨a, b, rfl, ra, rb⟩ := pair2 hr
  unfold cmpI at e
  split at e
  · rename_i i j e1
    cases e1
    cases e
    exact h pins s σ H x y v u Q I rx ry ⟨i, j, ra, rb, endC q (show RelD G pn O H (.bl _) (.bl _) from rfl)⟩
  · cases e
theorem o_lt : OpR X (compareOp .Lt) (rP2 G pn (pr G.T .lt)) := o_cmp op_lt
theorem o_le : OpR X (compareOp .LtE) (rP2 G pn (pr G.T .le)) := o_cmp op_le
theorem o_gt : OpR X (compareOp .Gt) (rP2 G pn (pr G.T .gt)) := o_cmp op_gt
theorem o_ge : OpR X (compareOp .GtE) (rP2 G pn (pr G.T .ge)) := o_cmp op_ge
theorem bodyT {O : Addr → Prop} {H : Hp} {xs : List D} {x : V} (hK : X.K = G.K) (h : BodyR G pn O H (.tup xs) x) : ∃ a vs, x = .ref a ∧ SqT X.K H a vs ∧ RelDs G pn O H xs vs := by
  rw [hK]
  exact RelD.sqT h
theorem bodyL {O : Addr → Prop} {H : Hp} {o : Bool} {xs : List D} {x : V} (h : BodyR G pn O H (.lst o xs) x) : ∃ a vs, x = .ref a ∧ H a = some (.lst vs) ∧ RelDs G pn O H xs vs := h
theorem o_add (c : Cnd X G) : OpR X (binaryOp .Add) (rP2 G pn (pr G.T .add)) := by
  intro pins s σ H x y v u Q I rx ry ⟨O, ds, d, hO, hr, e, q⟩
  obtain ⟨a, b, rfl, ra, rb⟩ := pair2 hr
  replace e : pAdd [a, b] = some d := e
  unfold pAdd at e
  split at e
  · rename_i i j e1
    cases e1
    cases e
    exact op_add pins s σ H x y v u Q I rx ry ⟨i, j, ra, rb, endC q (show RelD G pn O H (.int _) (.int _) from rfl)⟩
  · rename_i xs ys e1
    cases e1
    split at e
    · rename_i hl
      cases e
      obtain ⟨l1, vs, rfl, h1, r1⟩ := bodyT c.K ra
      obtain ⟨l2, ws, rfl, h2, r2⟩ := bodyT c.K rb
      refine op_catA pins s σ H _ _ v u Q I rx ry ⟨l1, l2, vs, ws, rfl, rfl, h1, h2, by rw [r1.length, r2.length]; exact lineOk_le hl, fun z => ?_, fun _ z => ?_, fun _ _ p hp => ?_⟩
      · subst z
        cases xs with
        | nil => exact endC q rb
        | cons a r => exact absurd r1.length (by simp)
      · subst z
        cases ys with
        | nil => rw [List.append_nil] at q; exact endC q ra
        | cons a r => exact absurd r2.length (by simp)
      · exact q _ _ (Ext.new hp) (new_tup hO (r1.append r2) hp)
    · cases e
  · rename_i o1 xs o2 ys e1
    cases e1
    split at e
    · rename_i hl
      cases e
      obtain ⟨l1, vs, rfl, h1, r1⟩ := bodyL ra
      obtain ⟨l2, ws, rfl, h2, r2⟩ := bodyL rb
      exact op_cat pins s σ H _ _ v u Q I rx ry ⟨l1, l2, vs, ws, rfl, rfl, h1, h2, by rw [r1.length, r2.length]; exact lineOk_le hl, fun p hp => q _ _ (Ext.new hp) (new_lst (r1.append r2) hp)⟩
    · cases e
  · rename_i i j e1
    cases e1
    split at e
    · rename_i hl
      cases e
      exact op_add_str pins s σ H x y v u Q I rx ry ⟨i, j, ra, rb, lineOk_le hl, endC q (show RelD G pn O H (.str _) (.str _) from rfl)⟩
    · cases e
  · cases e
/-! ### == of plain data -/
theorem tup_of {O : Addr → Prop} {H : Hp} {xs : List D} {v : V} (h : RelD G pn O H (.tup xs) v) : ∃ a vs, v = .ref a ∧ SqT G.K H a vs ∧ RelDs G pn O H xs vs := RelD.sqT h
mutual
theorem RelD.dp {O : Addr → Prop} {H : Hp} : ∀ (d : D) (v : V) (p : PyData), RelD G pn O H d v → d.py = some p → p.canLay0 = true → Dp G.K H v p
  | .non, v, p, h, e, _ => by
    cases e
    cases (show v = .non from h)
    exact .non
  | .bl b, v, p, h, e, _ => by
    cases e
    cases (show v = .bl b from h)
    exact .bl b
  | .int b, v, p, h, e, _ => by
    cases e
    cases (show v = .int b from h)
    exact .int b
  | .str b, v, p, h, e, _ => by
    cases e
    cases (show v = .str b from h)
    exact .str b
  | .tup xs, v, p, h, e, hs => by
    unfold D.py at e
    cases q : D.pys xs with
    | none => rw [q] at e; cases e
    | some ps =>
      rw [q] at e
      cases e
      obtain ⟨a, vs, rfl, h1, h2⟩ := tup_of h
      exact .tup h1 (RelDs.dp xs vs ps h2 q (by simpa [PyData.canLay0] using hs))
  | .lst o xs, v, p, h, e, hs => by
    unfold D.py at e
    cases q : D.pys xs with
    | none => rw [q] at e; cases e
    | some ps =>
      rw [q] at e
      cases e
      obtain ⟨_, a, vs, rfl, _, h1, h2⟩ := h
      exact .lst (SqL.of h1) (RelDs.dp xs vs ps h2 q (by simpa [PyData.canLay0] using hs))
  | .scr _, _, _, _, e, _ => by
    unfold D.py at e
    cases e
  | .dic _ ks vs, _, p, _, e, hs => by
    unfold D.py at e
    split at e
    · cases e
      cases hs
    · cases e
  | .ins .., _, _, _, e, _ => by
    unfold D.py at e
    cases e
  | .fn _, _, _, _, e, _ => by
    unfold D.py at e
    cases e
  | .exc .., _, _, _, e, _ => by
    unfold D.py at e
    cases e
theorem RelDs.dp {O : Addr → Prop} {H : Hp} : ∀ (ds : List D) (vs : List V) (ps : List PyData), RelDs G pn O H ds vs → D.pys ds = some ps → PyData.canLayAll0 ps = true → DpAll G.K H vs ps
  | [], vs, ps, h, e, _ => by
    cases (show vs = [] from h)
    cases e
    exact .nil
  | d :: ds, vs, ps, ⟨v, r, e0, h1, h2⟩, e, hs => by
    subst e0
    unfold D.pys at e
    split at e
    · rename_i p1 ps1 q1 q2
      cases e
      have hs' : p1.canLay0 = true ∧ PyData.canLayAll0 ps1 = true := by simpa [PyData.canLayAll0] using hs
      exact .cons (RelD.dp d v p1 h1 q1 hs'.1) (RelDs.dp ds r ps1 h2 q2 hs'.2)
    · cases e
end
theorem D.py_fr (d : D) : d.fr.py = d.py := by
  cases d <;> first | rfl | (unfold D.fr D.py; rfl)
theorem BodyR.dp {O : Addr → Prop} {H : Hp} {d : D} {v : V} {p : PyData} (h : BodyR G pn O H d v) (e : d.py = some p) (hs : p.canLay0 = true) : Dp G.K H v p := by
  cases d with
  | lst o xs =>
    unfold D.py at e
    cases q : D.pys xs with
    | none => rw [q] at e; cases e
    | some ps =>
      rw [q] at e
      cases e
      obtain ⟨a, vs, rfl, h1, h2⟩ := h
      exact .lst (SqL.of h1) (RelDs.dp xs vs ps h2 q (by simpa [PyData.canLay0] using hs))
  | dic o ks vs =>
    unfold D.py at e
    split at e
    · cases e
      simp [PyData.canLay0] at hs
    · cases e
  | ins o C vs =>
    unfold D.py at e
    cases e
  | _ => exact RelD.dp _ _ p h e hs
theorem eqD_some {a b : D} {r : Bool} (h : eqD a b = some r) : ∃ p q, a.py = some p ∧ b.py = some q ∧ SeqAt.shaped p = true ∧ SeqAt.shaped q = true ∧ r = PyData.eqv p q := by
  unfold eqD at h
  split at h
  · rename_i p q e1 e2
    split at h
    · rename_i hs
      rw [Bool.and_eq_true] at hs
      cases h
      exact ⟨p, q, e1, e2, hs.1, hs.2, rfl⟩
    · cases h
  · cases h
theorem o_eq (c : Cnd X G) : OpR X (compareOp .Eq) (rP2 G pn (pr G.T .eq)) := by
  intro pins s σ H x y v u Q I rx ry ⟨O, ds, d, hO, hr, e, q⟩
  obtain ⟨a, b, rfl, ra, rb⟩ := pair2 hr
  replace e : (eqD a b).map D.bl = some d := e
  cases e1 : eqD a b with
  | none => rw [e1] at e; cases e
  | some r =>
    rw [e1] at e
    cases e
    obtain ⟨p, p', h1, h2, h3, h4, rfl⟩ := eqD_some e1
    have hu := c.units
    exact op_eqD (by omega) pins s σ H x y v u Q I rx ry ⟨p, p', by rw [c.K]; exact ra.dp h1 (SeqAt.canLay_of_shaped h3), by rw [c.K]; exact rb.dp h2 (SeqAt.canLay_of_shaped h4), h3, h4, endC q (show RelD G pn O H (.bl _) (.bl _) from rfl)⟩
theorem o_ne (c : Cnd X G) : OpR X (compareOp .NotEq) (rP2 G pn (pr G.T .ne)) := by
  intro pins s σ H x y v u Q I rx ry ⟨O, ds, d, hO, hr, e, q⟩
  obtain ⟨a, b, rfl, ra, rb⟩ := pair2 hr
  replace e : (eqD a b).map (fun x => D.bl (!x)) = some d := e
  cases e1 : eqD a b with
  | none => rw [e1] at e; cases e
  | some r =>
    rw [e1] at e
    cases e
    obtain ⟨p, p', h1, h2, h3, h4, rfl⟩ := eqD_some e1
    have hu := c.units
    exact op_neD (by omega) pins s σ H x y v u Q I rx ry ⟨p, p', by rw [c.K]; exact ra.dp h1 (SeqAt.canLay_of_shaped h3), by rw [c.K]; exact rb.dp h2 (SeqAt.canLay_of_shaped h4), h3, h4, endC q (show RelD G pn O H (.bl _) (.bl _) from rfl)⟩
/-! ### subscripts -/
theorem RelDs.atI {O : Addr → Prop} {H : Hp} {ds : List D} {vs : List V} {i : Int} {d : D} (h : RelDs G pn O H ds vs) (e : L2.atI ds i = some d) : ∃ v, L2.atI vs i = some v ∧ RelD G pn O H d v := by
  unfold L2.atI at e ⊢
  rw [h.length]
  cases hj : L2.ixN ds.length i with
  | none => rw [hj] at e; cases e
  | some j =>
    rw [hj] at e
    exact h.get e
theorem dget_ok {O : Addr → Prop} {H : Hp} {k : Str} : ∀ {ks vs : List D} {kvs : List (Key × V)} {d : D}, RelDs G pn O H ks (kvs.map fun p => kV p.1) → RelDs G pn O H vs (kvs.map (·.2)) → dgetK k ks vs = some d → ∃ w, valV kvs (.inr k) = some w ∧ RelD G pn O H d w
  | [], _, _, _, _, _, e => by cases e
  | _ :: _, [], _, _, _, _, e => by cases e
  | a :: ks, v :: vs, [], d, ⟨_, _, e0, _, _⟩, _, _ => by cases e0
  | a :: ks, v :: vs, (p :: kvs), d, ⟨u, r, e0, h1, h2⟩, ⟨u', r', e0', h1', h2'⟩, e => by
    rw [List.map_cons] at e0 e0'
    cases e0
    cases e0'
    unfold dgetK at e
    split at e
    · rename_i hk
      cases e
      refine ⟨p.2, valV_pos ?_, h1'⟩
      cases a with
      | str z =>
        have hz : z = k := of_decide_eq_true hk
        subst hz
        have h1 : kV p.1 = V.str z := h1
        cases hp : p.1 with
        | inl i => rw [hp] at h1; cases h1
        | inr x => rw [hp] at h1; cases h1; rfl
      | _ => cases hk
    · rename_i hk
      obtain ⟨w, h3, h4⟩ := dget_ok h2 h2' e
      refine ⟨w, ?_, h4⟩
      rw [valV_neg]
      · exact h3
      · intro hp
        rw [hp] at h1
        apply hk
        cases a with
        | str z =>
          have h1 : V.str k = V.str z := h1
          cases h1
          exact decide_eq_true rfl
        | non => exact absurd (show V.str k = .non from h1) (by simp)
        | bl _ => exact absurd (show V.str k = .bl _ from h1) (by simp)
        | int _ => exact absurd (show V.str k = .int _ from h1) (by simp)
        | tup _ => obtain ⟨_, _, e, _⟩ := h1; cases e
        | lst _ _ => obtain ⟨_, _, _, e, _⟩ := h1; cases e
        | scr _ => obtain ⟨_, _, e, _⟩ := h1; cases e
        | dic _ _ _ => obtain ⟨_, _, _, e, _⟩ := h1; cases e
        | ins _ _ _ => obtain ⟨_, _, _, _, _, e, _⟩ := h1; cases e
        | fn _ => obtain ⟨_, e, _⟩ := h1; cases e
        | exc _ _ => obtain ⟨_, _, _, _, e, _⟩ := h1; cases e
theorem o_idx (c : Cnd X G) : IxR X (rP2 G pn (pr G.T .idx)) := by
  intro value slice pins s σ H x y v u Q I rx ry ⟨O, ds, d, hO, hr, e, q⟩ hs
  obtain ⟨a, b, rfl, ra, rb⟩ := pair2 hr
  replace e : pIdx [a, b] = some d := e
  unfold pIdx at e
  split at e
  · rename_i xs i e1
    cases e1
    obtain ⟨l, vs, e0, h1, r1⟩ := bodyT c.K ra
    obtain ⟨w, h2, h3⟩ := r1.atI e
    exact ix_tup value slice pins s σ H x y v u Q I rx ry ⟨l, vs, i, w, e0, rb, h1, h2, endC q h3⟩ hs
  · rename_i o xs i e1
    cases e1
    obtain ⟨l, vs, e0, h1, r1⟩ := bodyL ra
    obtain ⟨w, h2, h3⟩ := r1.atI e
    exact ix_list value slice pins s σ H x y v u Q I rx ry ⟨l, vs, i, w, e0, rb, SqL.of h1, h2, endC q h3⟩ hs
  · rename_i o ks ws k e1
    cases e1
    obtain ⟨l, kvs, e0, h1, r1, r2⟩ := ra
    cases (show y = .str k from rb)
    subst e0
    cases rx
    obtain ⟨w, h2, h3⟩ := dget_ok r1 r2 e
    have hu := c.units
    have g : DGet H l (kV (.inr k)) (some w) := .inl ⟨kvs, .inr k, .inl h1, rfl, h2.symm⟩
    exact tail_any (dict_typeIs I g) PySem.F.slot_dict_getitem.lookup (d_getItem (by omega) I g ry fun w' s' I' rw' => ⟨w, H, I', rw', endC q h3⟩) hs
  · cases e
/-! ### one place -/
theorem u_neg : UnR X (unaryOp .USub) (rP1 G pn (pr G.T .neg)) := by
  intro pins s σ H x v Q I rx ⟨O, ds, d, hO, hr, e, q⟩
  obtain ⟨a, rfl, ra⟩ := pair1 hr
  replace e : pNeg [a] = some d := e
  unfold pNeg at e
  split at e
  · rename_i i e1
    cases e1
    cases e
    exact un_neg pins s σ H x v Q I rx ⟨i, ra, endC q (show RelD G pn O H (.int _) (.int _) from rfl)⟩
  · cases e
/-- a value's truth -/
theorem truth_ok {O : Addr → Prop} {H : Hp} {d : D} {x : V} {b : Bool} (hK : X.K = G.K) (r : BodyR G pn O H d x) (e : truth d = some b) : TruV X.K x H b := by
  cases d with
  | non =>
    cases e
    cases (show x = .non from r)
    rfl
  | bl k =>
    cases e
    cases (show x = .bl _ from r)
    rfl
  | int i =>
    cases e
    cases (show x = .int _ from r)
    rfl
  | str y =>
    cases (show x = .str _ from r)
    replace e : (if y.length ≤ 16777216 then some ((y.length : Int) != 0) else none) = some b := e
    split at e
    · rename_i h
      cases e
      exact ⟨by rw [sizeLine_eq]; exact h, rfl⟩
    · cases e
  | tup xs =>
    obtain ⟨l, vs, rfl, h1, r1⟩ := bodyT hK r
    cases e
    refine .inr (.inl ⟨vs, h1, ?_⟩)
    cases xs with
    | nil => cases (show vs = [] from r1); rfl
    | cons a as => obtain ⟨w, ws, rfl, _⟩ := r1; rfl
  | lst o xs =>
    obtain ⟨l, vs, rfl, h1, r1⟩ := bodyL r
    cases e
    refine .inl ⟨vs, SqL.of h1, ?_⟩
    cases xs with
    | nil => cases (show vs = [] from r1); rfl
    | cons a as => obtain ⟨w, ws, rfl, _⟩ := r1; rfl
  | _ => cases e
theorem t_tru (c : Cnd X G) : TruR X (fun x H Q => ∃ O d b, BodyR G pn O H d x ∧ truth d = some b ∧ Q b H) := by
  intro pins s σ H x v Q I rx ⟨O, d, b, r, e, q⟩
  exact tru_ok pins s σ H x v Q I rx ⟨b, truth_ok c.K r e, q⟩
theorem u_not (c : Cnd X G) : UnR X (unaryOp .Not) (rP1 G pn (pr G.T .not)) := by
  intro pins s σ H x v Q I rx ⟨O, ds, d, hO, hr, e, q⟩
  obtain ⟨a, rfl, ra⟩ := pair1 hr
  replace e : (truth a).map (fun b => D.bl (!b)) = some d := e
  cases e1 : truth a with
  | none => rw [e1] at e; cases e
  | some b =>
    rw [e1] at e
    cases e
    refine PyProof.Rows.not_of (tru_ok pins s σ H x v (fun b H' => Q (.bl (!b)) H') I rx ⟨b, truth_ok c.K ra e1, endC q (show RelD G pn O H (.bl _) (.bl _) from rfl)⟩ |> fun h => thn h fun b s1 ⟨H', I', q'⟩ => ⟨.bl (!b), H', I', rfl, q'⟩)
/-! ### is -/
theorem body_noref {O : Addr → Prop} {H : Hp} {d : D} {x : V} (r : BodyR G pn O H d x) : (∃ a, x = .ref a) ∨ x = .non ∨ (∃ b, x = .bl b) ∨ (∃ i, x = .int i) ∨ ∃ z, x = .str z := by
  cases d with
  | non => exact .inr (.inl r)
  | bl b => exact .inr (.inr (.inl ⟨_, r⟩))
  | int b => exact .inr (.inr (.inr (.inl ⟨_, r⟩)))
  | str b => exact .inr (.inr (.inr (.inr ⟨_, r⟩)))
  | tup xs => obtain ⟨a, vs, e, _⟩ := r; exact .inl ⟨a, e⟩
  | lst o xs => obtain ⟨a, vs, e, _⟩ := r; exact .inl ⟨a, e⟩
  | scr xs => obtain ⟨a, vs, e, _⟩ := r; exact .inl ⟨a, e⟩
  | dic o ks vs => obtain ⟨a, vs, e, _⟩ := r; exact .inl ⟨a, e⟩
  | ins o C vs => obtain ⟨a, _, _, vs, e, _⟩ := r; exact .inl ⟨a, e⟩
  | fn f => obtain ⟨a, e, _⟩ := r; exact .inl ⟨a, e⟩
  | exc C vs => obtain ⟨a, _, _, _, e, _⟩ := r; exact .inl ⟨a, e⟩
theorem same_ok {O : Addr → Prop} {H : Hp} {a b : D} {x y : V} {v u : Value} {r : Bool} (ra : BodyR G pn O H a x) (rb : BodyR G pn O H b y) (rx : RelV x v) (ry : RelV y u) (e : sameD a b = some r) : plainIs v u = true ∧ (v == u) = r := by
  have nob : ∀ {k : Bool} {x : V} {v : Value}, RelV x v → (∀ b, x ≠ .bl b) → (v == Value.bool k) = false := by
    intro k x v rx h
    cases x with
    | bl b => exact absurd rfl (h b)
    | non => cases rx; rfl
    | int i => obtain ⟨t, rfl⟩ := rx; rfl
    | str i => obtain ⟨t, rfl⟩ := rx; rfl
    | byt i => obtain ⟨t, rfl⟩ := rx; rfl
    | flt i => obtain ⟨t, rfl⟩ := rx; rfl
    | ref i => cases rx; rfl
    | ty i => cases rx; rfl
  have non : ∀ {x : V} {v : Value}, RelV x v → x ≠ .non → (v == Value.none) = false := by
    intro x v rx h
    rw [L2.RelV.none_iff rx]
    exact decide_eq_false h
  have pln : ∀ {d : D} {x : V} {v : Value}, BodyR G pn O H d x → RelV x v → plainIs v .none = true ∧ ∀ k, plainIs v (.bool k) = true := by
    intro d x v r rx
    rcases body_noref r with ⟨a, rfl⟩ | rfl | ⟨k, rfl⟩ | ⟨i, rfl⟩ | ⟨z, rfl⟩
    · cases rx; exact ⟨rfl, fun _ => rfl⟩
    · cases rx; exact ⟨rfl, fun _ => rfl⟩
    · cases rx; exact ⟨rfl, fun _ => rfl⟩
    · obtain ⟨t, rfl⟩ := rx; exact ⟨rfl, fun _ => rfl⟩
    · obtain ⟨t, rfl⟩ := rx; exact ⟨rfl, fun _ => rfl⟩
  cases b with
  | non =>
    cases (show y = .non from rb)
    cases (show u = .none from ry)
    refine ⟨(pln ra rx).1, ?_⟩
    cases a with
    | non =>
      cases (show x = .non from ra)
      cases (show v = .none from rx)
      cases e
      rfl
    | fn f => cases e
    | exc C vs => cases e
    | bl k => cases e; exact non rx (by rw [show x = .bl k from ra]; simp)
    | int k => cases e; exact non rx (by rw [show x = .int k from ra]; simp)
    | str k => cases e; exact non rx (by rw [show x = .str k from ra]; simp)
    | tup xs => cases e; obtain ⟨p, vs, e0, _⟩ := ra; exact non rx (by rw [e0]; simp)
    | lst o xs => cases e; obtain ⟨p, vs, e0, _⟩ := ra; exact non rx (by rw [e0]; simp)
    | scr xs => cases e; obtain ⟨p, vs, e0, _⟩ := ra; exact non rx (by rw [e0]; simp)
    | dic o ks vs => cases e; obtain ⟨p, vs, e0, _⟩ := ra; exact non rx (by rw [e0]; simp)
    | ins o C vs => cases e; obtain ⟨p, _, _, vs, e0, _⟩ := ra; exact non rx (by rw [e0]; simp)
  | bl k =>
    cases (show y = .bl k from rb)
    cases (show u = .bool k from ry)
    refine ⟨(pln ra rx).2 k, ?_⟩
    cases a with
    | non => cases e; exact nob rx (by rw [show x = .non from ra]; simp)
    | fn f => cases e
    | exc C vs => cases e
    | bl j =>
      cases (show x = .bl j from ra)
      cases (show v = .bool j from rx)
      cases e
      cases j <;> cases k <;> rfl
    | int k => cases e; exact nob rx (by rw [show x = .int k from ra]; simp)
    | str k => cases e; exact nob rx (by rw [show x = .str k from ra]; simp)
    | tup xs => cases e; obtain ⟨p, vs, e0, _⟩ := ra; exact nob rx (by rw [e0]; simp)
    | lst o xs => cases e; obtain ⟨p, vs, e0, _⟩ := ra; exact nob rx (by rw [e0]; simp)
    | scr xs => cases e; obtain ⟨p, vs, e0, _⟩ := ra; exact nob rx (by rw [e0]; simp)
    | dic o ks vs => cases e; obtain ⟨p, vs, e0, _⟩ := ra; exact nob rx (by rw [e0]; simp)
    | ins o C vs => cases e; obtain ⟨p, _, _, vs, e0, _⟩ := ra; exact nob rx (by rw [e0]; simp)
  | _ => cases a <;> cases e
theorem o_is : OpR X (compareOp .Is) (rP2 G pn (pr G.T .is)) := by
  intro pins s σ H x y v u Q I rx ry ⟨O, ds, d, hO, hr, e, q⟩
  obtain ⟨a, b, rfl, ra, rb⟩ := pair2 hr
  replace e : (sameD a b).map D.bl = some d := e
  cases e1 : sameD a b with
  | none => rw [e1] at e; cases e
  | some r =>
    rw [e1] at e
    cases e
    obtain ⟨h1, h2⟩ := same_ok ra rb rx ry e1
    exact wpAny_is_plain h1 ⟨.bl r, H, I, (by rw [h2]; rfl), endC q (show RelD G pn O H (.bl _) (.bl _) from rfl)⟩
theorem o_isnot : OpR X (compareOp .IsNot) (rP2 G pn (pr G.T .isnot)) := by
  intro pins s σ H x y v u Q I rx ry ⟨O, ds, d, hO, hr, e, q⟩
  obtain ⟨a, b, rfl, ra, rb⟩ := pair2 hr
  replace e : (sameD a b).map (fun x => D.bl (!x)) = some d := e
  cases e1 : sameD a b with
  | none => rw [e1] at e; cases e
  | some r =>
    rw [e1] at e
    cases e
    obtain ⟨h1, h2⟩ := same_ok ra rb rx ry e1
    exact wpAny_isNot_plain h1 ⟨.bl (!r), H, I, (by rw [h2]; rfl), endC q (show RelD G pn O H (.bl _) (.bl _) from rfl)⟩
end
end PI
/-! PI, part f: * of tuples, in, the builtins. -/
namespace PI
open PySem PySem.Spec L2 PyProof.Rows
section
theorem tuple_mulSame (l : Addr) (items : Array Value) (n : Nat) (dd : Option Addr) (sl : Array (Option Value)) (x : Int) (u : Tok) (c0 : (decide (x < -(2 ^ 63)) || decide (x ≥ 2 ^ 63)) = false) (c1 : (items.isEmpty || x == 1) = true) :
    Meets (Builtin.«tuple.__mul__» ⟨[.ref l, .int x u], []⟩) (fun _ R s => s.heap.get? l = some { cls := .type "tuple", dict := dd, data := .seq items n, slots := sl } ∧ R (.ok (.ret (Value.ref l))) s) :=
  .of_wp fun prog w A R s h => by
    obtain ⟨hp, g, d, tk, os⟩ := s
    obtain ⟨hl, h⟩ := h
    have f1 := AutoSeq1.idx_int
    wp_walk using wpAny_loadPart' hl
    repeat (first
      | (refine wpAny_ite_false (decide_eq_false (by rw [c0]; exact Bool.false_ne_true)) ?_; wp_walk using wpAny_loadPart' hl)
      | (refine wpAny_ite_true (decide_eq_true c1) ?_; wp_walk using wpAny_loadPart' hl))
    exact ⟨_, rfl, h⟩
theorem tuple_mulNil (l : Addr) (items : Array Value) (n : Nat) (dd : Option Addr) (sl : Array (Option Value)) (x : Int) (u : Tok) (c0 : (decide (x < -(2 ^ 63)) || decide (x ≥ 2 ^ 63)) = false) (c1 : (items.isEmpty || x == 1) = false) (c2 : (decide (x ≤ 0) || items.isEmpty) = true) :
    Meets (Builtin.«tuple.__mul__» ⟨[.ref l, .int x u], []⟩) (fun _ R s => s.heap.get? l = some { cls := .type "tuple", dict := dd, data := .seq items n, slots := sl } ∧
      R (.ok (.ret (Value.ref s.heap.objs.size))) { s with heap := s.heap.push { cls := Value.type "tuple", data := Data.seq #[] }, toks := s.toks }) :=
  .of_wp fun prog w A R s h => by
    obtain ⟨hp, g, d, tk, os⟩ := s
    obtain ⟨hl, h⟩ := h
    have f1 := AutoSeq1.idx_int
    wp_walk using wpAny_loadPart' hl
    repeat (first
      | (refine wpAny_ite_false (decide_eq_false (by rw [c0]; exact Bool.false_ne_true)) ?_; wp_walk using wpAny_loadPart' hl)
      | (refine wpAny_ite_false (decide_eq_false (by rw [c1]; exact Bool.false_ne_true)) ?_; wp_walk using wpAny_loadPart' hl)
      | (refine wpAny_ite_true (decide_eq_true c2) ?_; wp_walk using wpAny_loadPart' hl))
    exact ⟨_, rfl, h⟩
end
section
variable {X : Cx} {G : Txt} {pn : List (Addr × Obj)}
theorem Dp.noDict {K : PySem.W.Frag} {H : Hp} {p : PyData} (h : p.canLay0 = true) : p.hasDict = false := PyData.hasDict_of_canLay p h
theorem op_repS (hb : True) : OpR X (binaryOp .Mult) (fun x y H Q => ∃ l k xs, x = .ref l ∧ y = .int k ∧ SqT X.K H l xs ∧ (xs = [] ∨ k = 1) ∧ -1000 ≤ k ∧ k ≤ 1000 ∧ Q (.ref l) H) := by
  intro pins s σ H x y v u Q I rx ry h
  obtain ⟨l, k, xs, rfl, rfl, hT, hne, h1, h2, q⟩ := h
  cases rx
  obtain ⟨t, rfl⟩ := ry
  obtain ⟨its, r, ⟨⟨cls, dd, data, sl⟩, ho, hc, n, hd⟩, hs⟩ := I.tuple hT
  simp only at hc hd
  subst hc hd
  have c0 : (decide (k < -(2 ^ 63)) || decide (k ≥ 2 ^ 63)) = false := by
    rw [decide_eq_false (by omega), decide_eq_false (by omega)] <;> rfl
  have c1 : (its.toArray.isEmpty || k == 1) = true := by
    rcases hne with e | e
    · subst e
      cases r
      rfl
    · subst e
      simp
  exact wpAny_binaryOp_repeat_ref (T := "tuple") (U := "int") (by decide) ⟨_, ho, rfl⟩ (fun s' => typeIs_int s' k t) noFill_tuple_mul PySem.F.fills_int_mul PySem.F.slot_int_rmul repeat_tuple PySem.F.slot_int_index.lookup
    (call_meets PySem.F.slot_int_rmul (typeIs_int s k t) PySem.F.entry_int_rmul (PySem.F.args_int_rmul_2 _ _) (int_rmul_tuple k t l its.toArray n dd sl)
      ⟨ho, rfl, ⟨_, ho, rfl⟩, call_meets PySem.F.slot_tuple_mul ⟨_, ho, rfl⟩ PySem.F.entry_tuple_mul (PySem.F.args_tuple_mul_2 _ _) (tuple_mulSame l its.toArray n dd sl k t c0 c1) ⟨ho, .ref l, H, I, rfl, q⟩⟩)
theorem op_repN : OpR X (binaryOp .Mult) (fun x y H Q => ∃ l k xs, x = .ref l ∧ y = .int k ∧ SqT X.K H l xs ∧ xs ≠ [] ∧ -1000 ≤ k ∧ k ≤ 0 ∧ ∀ p, H p = none → Q (.ref p) (upd H p (.tup []))) := by
  intro pins s σ H x y v u Q I rx ry h
  obtain ⟨l, k, xs, rfl, rfl, hT, hne, h1, h2, q⟩ := h
  cases rx
  obtain ⟨t, rfl⟩ := ry
  obtain ⟨its, r, ⟨⟨cls, dd, data, sl⟩, ho, hc, n, hd⟩, hs⟩ := I.tuple hT
  simp only at hc hd
  subst hc hd
  have c0 : (decide (k < -(2 ^ 63)) || decide (k ≥ 2 ^ 63)) = false := by
    rw [decide_eq_false (by omega), decide_eq_false (by omega)] <;> rfl
  have hi : its.toArray.isEmpty = false := by
    cases r with
    | nil => exact absurd rfl hne
    | cons a b => rfl
  have c1 : (its.toArray.isEmpty || k == 1) = false := by
    rw [hi, Bool.false_or]
    exact beq_eq_false_iff_ne.mpr (by omega)
  have c2 : (decide (k ≤ 0) || its.toArray.isEmpty) = true := by
    rw [decide_eq_true h2]
    rfl
  refine wpAny_binaryOp_repeat_ref (T := "tuple") (U := "int") (by decide) ⟨_, ho, rfl⟩ (fun s' => typeIs_int s' k t) noFill_tuple_mul PySem.F.fills_int_mul PySem.F.slot_int_rmul repeat_tuple PySem.F.slot_int_index.lookup
    (call_meets PySem.F.slot_int_rmul (typeIs_int s k t) PySem.F.entry_int_rmul (PySem.F.args_int_rmul_2 _ _) (int_rmul_tuple k t l its.toArray n dd sl)
      ⟨ho, rfl, ⟨_, ho, rfl⟩, call_meets PySem.F.slot_tuple_mul ⟨_, ho, rfl⟩ PySem.F.entry_tuple_mul (PySem.F.args_tuple_mul_2 _ _) (tuple_mulNil l its.toArray n dd sl k t c0 c1 c2) ⟨ho, ?_⟩⟩)
  refine ⟨.ref s.heap.objs.size, _, I.laid (t' := s.toks) (o := .tup []) (fun b ob q => Heap.get?_push_of_some _ q) (Nat.le_refl _) ?_, rfl, q _ (I.hok.fresh (Nat.le_refl _))⟩
  exact ⟨Nat.zero_le _, [], .nil, IsTup.new _ _⟩
theorem flat_nil {α : Type} : ∀ n : Nat, (List.replicate n ([] : List α)).flatten = []
  | 0 => rfl
  | n + 1 => by rw [List.replicate_succ, List.flatten_cons, flat_nil n]; rfl
theorem o_mul (c : Cnd X G) : OpR X (binaryOp .Mult) (rP2 G pn (pr G.T .mul)) := by
  intro pins s σ H x y v u Q I rx ry ⟨O, ds, d, hO, hr, e, q⟩
  obtain ⟨a, b, rfl, ra, rb⟩ := pair2 hr
  replace e : pMul [a, b] = some d := e
  unfold pMul at e
  split at e
  · rename_i i j e1
    cases e1
    split at e
    · rename_i h
      cases e
      exact op_mulW pins s σ H x y v u Q I rx ry ⟨i, j, ra, rb, (show CMulW i j from of_decide_eq_true (p := i.natAbs.log2 + j.natAbs.log2 < 1000000) h), endC q (show RelD G pn O H (.int _) (.int _) from rfl)⟩
    · cases e
  · rename_i xs k e1
    cases e1
    split at e
    · rename_i h
      rw [Bool.and_eq_true, Bool.and_eq_true, decide_eq_true_eq, decide_eq_true_eq, decide_eq_true_eq] at h
      cases e
      obtain ⟨l, vs, e0, h1, r1⟩ := bodyT c.K ra
      have hl := r1.length
      by_cases hx : xs = []
      · subst hx
        refine op_repS trivial pins s σ H x y v u Q I rx ry ⟨l, k, vs, e0, rb, h1, .inl (List.eq_nil_of_length_eq_zero hl), h.1.1, h.1.2, ?_⟩
        rw [← e0]
        unfold repD at q
        rw [flat_nil] at q
        exact endC q ra
      · have hv : vs ≠ [] := fun z => hx (List.eq_nil_of_length_eq_zero (by rw [← hl, z]; rfl))
        by_cases hk : k = 1
        · subst hk
          refine op_repS trivial pins s σ H x y v u Q I rx ry ⟨l, 1, vs, e0, rb, h1, .inr rfl, h.1.1, h.1.2, ?_⟩
          rw [← e0]
          have e2 : repD xs 1 = xs := by
            unfold repD
            show (List.replicate 1 xs).flatten = xs
            simp
          rw [e2] at q
          exact endC q ra
        · by_cases h0 : k ≤ 0
          · refine op_repN pins s σ H x y v u Q I rx ry ⟨l, k, vs, e0, rb, h1, hv, h.1.1, h0, fun p hp => q _ _ (Ext.new hp) ?_⟩
            have e2 : repD xs k = [] := by
              unfold repD
              rw [show k.toNat = 0 by omega]
              rfl
            rw [e2]
            exact new_tup hO rfl hp
          · exact op_repT pins s σ H x y v u Q I rx ry ⟨l, k, vs, e0, rb, h1, hv, by omega, h.1.2, by omega, fun p hp => q _ _ (Ext.new hp) (new_tup hO (r1.rep k.toNat) hp)⟩
    · cases e
  · rename_i o xs k e1
    cases e1
    split at e
    · rename_i h
      rw [Bool.and_eq_true, Bool.and_eq_true, decide_eq_true_eq, decide_eq_true_eq, decide_eq_true_eq] at h
      cases e
      obtain ⟨l, vs, e0, h1, r1⟩ := bodyL ra
      have hl := r1.length
      refine op_rep pins s σ H x y v u Q I rx ry ⟨l, k, vs, e0, rb, h1, by omega, by omega, ?_, fun p hp => q _ _ (Ext.new hp) (new_lst (r1.rep k.toNat) hp)⟩
      rw [hl, sizeLine_eq]
      exact Nat.le_trans (Nat.mul_le_mul h.2 (show k.toNat ≤ 1000 by omega)) (by decide)
    · cases e
  · cases e
/-! ### in -/
theorem o_isin (c : Cnd X G) : OpR X (compareOp .In) (rP2 G pn (pr G.T .isin)) := by
  intro pins s σ H x y v u Q I rx ry ⟨O, ds, d, hO, hr, e, q⟩
  obtain ⟨a, b, rfl, ra, rb⟩ := pair2 hr
  replace e : pIn false a b = some d := e
  have hu := c.units
  unfold pIn at e
  split at e
  · rename_i p ps e1 e2
    split at e
    · rename_i hs
      rw [Bool.and_eq_true] at hs
      cases e
      have d1 := ra.dp e1 (SeqAt.canLay_of_shaped hs.1)
      have d2 := rb.dp e2 (SeqAt.canLay_of_shaped hs.2)
      rw [← c.K] at d1 d2
      obtain ⟨as, r1⟩ := Dp.reads I p x v d1 rx
      obtain ⟨bs, r2⟩ := Dp.reads I (.tuple ps) y u d2 ry
      exact SeqAt.in_tuple_reads r2 r1 (SeqAt.canLay_of_shaped hs.2) (SeqAt.canLay_of_shaped hs.1) (room_in_shaped hs.1 hu) ⟨.bl _, H, I, (by rw [Bool.bne_false]; rfl), endC q (show RelD G pn O H (.bl _) (.bl _) from rfl)⟩
    · cases e
  · rename_i p ps e1 e2
    split at e
    · rename_i hs
      rw [Bool.and_eq_true] at hs
      cases e
      have d1 := ra.dp e1 (SeqAt.canLay_of_shaped hs.1)
      have d2 := rb.dp e2 (SeqAt.canLay_of_shaped hs.2)
      rw [← c.K] at d1 d2
      obtain ⟨as, r1⟩ := Dp.reads I p x v d1 rx
      obtain ⟨bs, r2⟩ := Dp.reads I (.list ps) y u d2 ry
      exact SeqAt.in_list_reads r2 r1 (SeqAt.canLay_of_shaped hs.2) (SeqAt.canLay_of_shaped hs.1) (room_in_shaped hs.1 hu) ⟨.bl _, H, I, (by rw [Bool.bne_false]; rfl), endC q (show RelD G pn O H (.bl _) (.bl _) from rfl)⟩
    · cases e
  · cases e
theorem o_notin (c : Cnd X G) : OpR X (compareOp .NotIn) (rP2 G pn (pr G.T .notin)) := by
  intro pins s σ H x y v u Q I rx ry ⟨O, ds, d, hO, hr, e, q⟩
  obtain ⟨a, b, rfl, ra, rb⟩ := pair2 hr
  replace e : pIn true a b = some d := e
  have hu := c.units
  unfold pIn at e
  split at e
  · rename_i p ps e1 e2
    split at e
    · rename_i hs
      rw [Bool.and_eq_true] at hs
      cases e
      have d1 := ra.dp e1 (SeqAt.canLay_of_shaped hs.1)
      have d2 := rb.dp e2 (SeqAt.canLay_of_shaped hs.2)
      rw [← c.K] at d1 d2
      obtain ⟨as, r1⟩ := Dp.reads I p x v d1 rx
      obtain ⟨bs, r2⟩ := Dp.reads I (.tuple ps) y u d2 ry
      exact SeqAt.notIn_tuple_reads r2 r1 (SeqAt.canLay_of_shaped hs.2) (SeqAt.canLay_of_shaped hs.1) (room_in_shaped hs.1 hu) ⟨.bl _, H, I, (by rw [Bool.bne_true]; rfl), endC q (show RelD G pn O H (.bl _) (.bl _) from rfl)⟩
    · cases e
  · rename_i p ps e1 e2
    split at e
    · rename_i hs
      rw [Bool.and_eq_true] at hs
      cases e
      have d1 := ra.dp e1 (SeqAt.canLay_of_shaped hs.1)
      have d2 := rb.dp e2 (SeqAt.canLay_of_shaped hs.2)
      rw [← c.K] at d1 d2
      obtain ⟨as, r1⟩ := Dp.reads I p x v d1 rx
      obtain ⟨bs, r2⟩ := Dp.reads I (.list ps) y u d2 ry
      exact SeqAt.notIn_list_reads r2 r1 (SeqAt.canLay_of_shaped hs.2) (SeqAt.canLay_of_shaped hs.1) (room_in_shaped hs.1 hu) ⟨.bl _, H, I, (by rw [Bool.bne_true]; rfl), endC q (show RelD G pn O H (.bl _) (.bl _) from rfl)⟩
    · cases e
  · cases e
/-! ### builtins -/
theorem c_len (hK : X.K = G.K) : CallR X (.builtin "len") (rPn G pn (pr G.T .len)) := by
  intro pins s σ H xs us Q I rs ⟨O, ds, d, hO, hr, e, q⟩
  replace e : pLen ds = some d := e
  unfold pLen at e
  split at e
  · cases hr with
    | cons ra hr =>
      cases hr
      split at e
      · rename_i h
        cases e
        rename_i w
        cases (show w = .str _ from ra)
        exact call_len_str pins s σ H _ us Q I rs ⟨_, rfl, lineOk_le h, endC q (show RelD G pn O H (.int _) (.int _) from rfl)⟩
      · cases e
  · cases hr with
    | cons ra hr =>
      cases hr
      cases e
      obtain ⟨l, vs, e0, h1, r1⟩ := bodyT hK ra
      subst e0
      exact call_len_seq pins s σ H _ us Q I rs ⟨l, vs, rfl, .inr h1, endC q (show RelD G pn O H (.int _) (.int _) from by show _ = _; rw [r1.length])⟩
  · cases hr with
    | cons ra hr =>
      cases hr
      cases e
      obtain ⟨l, vs, e0, h1, r1⟩ := bodyL ra
      subst e0
      exact call_len_seq pins s σ H _ us Q I rs ⟨l, vs, rfl, .inl (SqL.of h1), endC q (show RelD G pn O H (.int _) (.int _) from by show _ = _; rw [r1.length])⟩
  · cases hr with
    | cons ra hr =>
      cases hr
      cases e
      obtain ⟨l, o, e0, _, h1⟩ := ra
      subst e0
      exact call_len_seq pins s σ H _ us Q I rs ⟨l, _, rfl, .inl (.inl (.inr ⟨o, h1⟩)), endC q (show RelD G pn O H (.int _) (.int _) from by show _ = _; rw [List.length_map])⟩
  · cases hr with
    | cons ra hr =>
      cases hr
      cases e
      obtain ⟨l, kvs, e0, h1, r1, r2⟩ := ra
      subst e0
      refine (show wpAny (model X.prog X.w) X.A (call (.builtin "len") us) (EP X pins σ Q) X.xe s from ?_)
      obtain ⟨u1, rfl, ru⟩ := vals1 rs
      cases ru
      refine d_len I (.of h1) fun t s' I' => ⟨.int kvs.length, H, I', ⟨t, rfl⟩, endC q (show RelD G pn O H (.int _) (.int _) from ?_)⟩
      · show _ = _
        have := r1.length
        rw [List.length_map] at this
        rw [this]
  · cases e
theorem c_int : CallR X (.type "int") (rPn G pn (pr G.T .int)) := by
  intro pins s σ H xs us Q I rs ⟨O, ds, d, hO, hr, e, q⟩
  replace e : pToInt ds = some d := e
  unfold pToInt at e
  split at e
  · cases hr with
    | cons ra hr =>
      rename_i w _
      cases hr
      cases (show w = .int _ from ra)
      cases e
      exact call_int1 pins s σ H _ us Q I rs (.inl ⟨_, rfl, endC q (show RelD G pn O H (.int _) (.int _) from rfl)⟩)
  · cases hr with
    | cons ra hr =>
      rename_i w _
      cases hr
      cases (show w = .bl _ from ra)
      cases e
      exact call_int1 pins s σ H _ us Q I rs (.inr ⟨_, rfl, endC q (show RelD G pn O H (.int _) (.int _) from rfl)⟩)
  · cases e
theorem c_abs : CallR X (.builtin "abs") (rPn G pn (pr G.T .abs)) := by
  intro pins s σ H xs us Q I rs ⟨O, ds, d, hO, hr, e, q⟩
  replace e : pAbs ds = some d := e
  unfold pAbs at e
  split at e
  · cases hr with
    | cons ra hr =>
      rename_i w _
      cases hr
      cases (show w = .int _ from ra)
      cases e
      exact call_abs pins s σ H _ us Q I rs ⟨_, rfl, endC q (show RelD G pn O H (.int _) (.int _) from rfl)⟩
  · cases e
theorem c_int2 {f : Value} {g : Int → Int → Option Int} (h : ∀ (i j r : Int), g i j = some r → CallR X f (fun xs H Q => xs = [.int i, .int j] ∧ Q (.int r) H)) : CallR X f (rPn G pn (pInt g)) := by
  intro pins s σ H xs us Q I rs ⟨O, ds, d, hO, hr, e, q⟩
  unfold pInt at e
  split at e
  · rename_i i j
    cases hr with
    | cons ra hr =>
      cases hr with
      | cons rb hr =>
        cases hr
        rename_i w1 w2
        cases (show w1 = .int _ from ra)
        cases (show w2 = .int _ from rb)
        cases e2 : g i j with
        | none => rw [e2] at e; cases e
        | some r =>
          rw [e2] at e
          cases e
          exact h i j r e2 pins s σ H _ us Q I rs ⟨rfl, endC q (show RelD G pn O H (.int r) (.int r) from rfl)⟩
  · cases e
theorem c_max (hc : X.calm = true) : CallR X (.builtin "max") (rPn G pn (pr G.T .max)) := c_int2 fun i j r e pins s σ H xs us Q I rs ⟨e1, q⟩ => by
  cases e
  exact call_max2 hc pins s σ H xs us Q I rs ⟨i, j, e1, q⟩
theorem c_min (hc : X.calm = true) : CallR X (.builtin "min") (rPn G pn (pr G.T .min)) := c_int2 fun i j r e pins s σ H xs us Q I rs ⟨e1, q⟩ => by
  cases e
  exact call_min2 hc pins s σ H xs us Q I rs ⟨i, j, e1, q⟩
theorem c_gcd : CallR X (.builtin "math.gcd") (rPn G pn (pr G.T .gcd)) := c_int2 fun i j r e pins s σ H xs us Q I rs ⟨e1, q⟩ => by
  cases e
  exact cr_gcd pins s σ H xs us Q I rs ⟨i, j, e1, q⟩
theorem seq_ok (hK : X.K = G.K) {O : Addr → Prop} {H : Hp} {d : D} {x : V} {ds : List D} (r : BodyR G pn O H d x) (e : seqD d = some ds) : ∃ l vs, x = .ref l ∧ (SqL X.K H l vs ∨ SqT X.K H l vs) ∧ RelDs G pn O H ds vs := by
  unfold seqD at e
  split at e
  · cases e
    obtain ⟨l, vs, e0, h1, r1⟩ := bodyT hK r
    exact ⟨l, vs, e0, .inr h1, r1⟩
  · cases e
    obtain ⟨l, vs, e0, h1, r1⟩ := bodyL r
    exact ⟨l, vs, e0, .inl (SqL.of h1), r1⟩
  · rename_i ns
    cases e
    obtain ⟨l, o, e0, _, h1⟩ := r
    refine ⟨l, _, e0, .inl (.inl (.inr ⟨o, h1⟩)), ?_⟩
    clear h1
    induction ns with
    | nil => rfl
    | cons n ns ih => exact .cons (show RelD G pn O H (.int n) (.int n) from rfl) ih
  · cases e
theorem c_list (hK : X.K = G.K) : CallR X (.type "list") (rPn G pn (pr G.T .list)) := by
  intro pins s σ H xs us Q I rs ⟨O, ds, d, hO, hr, e, q⟩
  replace e : p1 (fun d => (seqD d).map (D.lst true)) ds = some d := e
  unfold p1 at e
  split at e
  · rename_i a
    replace e : (seqD a).map (D.lst true) = some d := e
    cases hr with
    | cons ra hr =>
      cases hr
      cases e1 : seqD a with
      | none => rw [e1] at e; cases e
      | some xs =>
        rw [e1] at e
        cases e
        obtain ⟨l, vs, rfl, h1, r1⟩ := seq_ok hK ra e1
        exact call_list_of pins s σ H _ us Q I rs ⟨l, vs, rfl, h1, fun p hp => q _ _ (Ext.new hp) (new_lst r1 hp)⟩
  · cases e
theorem c_tuple (hK : X.K = G.K) : CallR X (.type "tuple") (rPn G pn (pr G.T .tuple)) := by
  intro pins s σ H xs us Q I rs ⟨O, ds, d, hO, hr, e, q⟩
  replace e : p1 (fun d => (seqD d).map D.tup) ds = some d := e
  unfold p1 at e
  split at e
  · rename_i a
    replace e : (seqD a).map D.tup = some d := e
    cases hr with
    | cons ra hr =>
      cases hr
      cases e1 : seqD a with
      | none => rw [e1] at e; cases e
      | some xs =>
        rw [e1] at e
        cases e
        cases a with
        | tup ys =>
          cases e1
          obtain ⟨l, vs, rfl, h1, r1⟩ := bodyT hK ra
          exact call_tuple_of pins s σ H _ us Q I rs ⟨l, vs, rfl, .inr ⟨h1, endC q ra⟩⟩
        | lst o ys =>
          cases e1
          obtain ⟨l, vs, rfl, h1, r1⟩ := bodyL ra
          exact call_tuple_of pins s σ H _ us Q I rs ⟨l, vs, rfl, .inl ⟨SqL.of h1, fun p hp => q _ _ (Ext.new hp) (new_tup hO r1 hp)⟩⟩
        | scr ns =>
          obtain ⟨l, vs, rfl, h1, r1⟩ := seq_ok hK ra e1
          obtain ⟨l', o, e0, _, h2⟩ := ra
          cases e0
          have h3 : SqL X.K H l (ns.map V.int) := .inl (.inr ⟨o, h2⟩)
          cases e1
          have r3 : RelDs G pn O H (ns.map D.int) (ns.map V.int) := by
            clear h3 h2 r1 q
            induction ns with
            | nil => rfl
            | cons n ns ih => exact .cons (show RelD G pn O H (.int n) (.int n) from rfl) ih
          exact call_tuple_of pins s σ H _ us Q I rs ⟨l, _, rfl, .inl ⟨h3, fun p hp => q _ _ (Ext.new hp) (new_tup hO r3 hp)⟩⟩
        | _ => cases e1
  · cases e
theorem ints_ok {O : Addr → Prop} {H : Hp} : ∀ {ds : List D} {vs : List V} {ns : List Int}, RelDs G pn O H ds vs → intsD ds = some ns → vs = ns.map V.int
  | [], vs, ns, h, e => by
    cases e
    exact h
  | .int i :: ds, vs, ns, ⟨v, r, e0, h1, h2⟩, e => by
    unfold intsD at e
    cases e1 : intsD ds with
    | none => rw [e1] at e; cases e
    | some ms =>
      rw [e1] at e
      cases e
      subst e0
      cases (show v = .int i from h1)
      rw [ints_ok h2 e1]
      rfl
  | .non :: _, _, _, _, e => by cases e
  | .bl _ :: _, _, _, _, e => by cases e
  | .str _ :: _, _, _, _, e => by cases e
  | .tup _ :: _, _, _, _, e => by cases e
  | .lst .. :: _, _, _, _, e => by cases e
  | .scr _ :: _, _, _, _, e => by cases e
  | .dic .. :: _, _, _, _, e => by cases e
  | .ins .. :: _, _, _, _, e => by cases e
  | .fn _ :: _, _, _, _, e => by cases e
  | .exc .. :: _, _, _, _, e => by cases e
theorem bools_ok {O : Addr → Prop} {H : Hp} : ∀ {ds : List D} {vs : List V} {ns : List Bool}, RelDs G pn O H ds vs → boolsD ds = some ns → vs = ns.map V.bl
  | [], vs, ns, h, e => by
    cases e
    exact h
  | .bl i :: ds, vs, ns, ⟨v, r, e0, h1, h2⟩, e => by
    unfold boolsD at e
    cases e1 : boolsD ds with
    | none => rw [e1] at e; cases e
    | some ms =>
      rw [e1] at e
      cases e
      subst e0
      cases (show v = .bl i from h1)
      rw [bools_ok h2 e1]
      rfl
  | .non :: _, _, _, _, e => by cases e
  | .int _ :: _, _, _, _, e => by cases e
  | .str _ :: _, _, _, _, e => by cases e
  | .tup _ :: _, _, _, _, e => by cases e
  | .lst .. :: _, _, _, _, e => by cases e
  | .scr _ :: _, _, _, _, e => by cases e
  | .dic .. :: _, _, _, _, e => by cases e
  | .ins .. :: _, _, _, _, e => by cases e
  | .fn _ :: _, _, _, _, e => by cases e
  | .exc .. :: _, _, _, _, e => by cases e
theorem c_sum (hc : X.calm = true) : CallR X (.builtin "sum") (rPn G pn (pr G.T .sum)) := by
  intro pins s σ H xs us Q I rs ⟨O, ds, d, hO, hr, e, q⟩
  replace e : pSum ds = some d := e
  unfold pSum at e
  split at e
  · rename_i o ys
    cases hr with
    | cons ra hr =>
      cases hr
      cases e1 : intsD ys with
      | none => rw [e1] at e; cases e
      | some ns =>
        rw [e1] at e
        cases e
        obtain ⟨l, vs, rfl, h1, r1⟩ := bodyL ra
        cases ints_ok r1 e1
        exact cr_sum hc pins s σ H _ us Q I rs ⟨l, ns, rfl, SqL.of h1, endC q (show RelD G pn O H (.int _) (.int _) from rfl)⟩
  · cases e
theorem c_all (hc : X.calm = true) : CallR X (.builtin "all") (rPn G pn (pr G.T .all)) := by
  intro pins s σ H xs us Q I rs ⟨O, ds, d, hO, hr, e, q⟩
  replace e : pAll (fun bs => bs.all id) ds = some d := e
  unfold pAll at e
  split at e
  · rename_i o ys
    cases hr with
    | cons ra hr =>
      cases hr
      cases e1 : boolsD ys with
      | none => rw [e1] at e; cases e
      | some ns =>
        rw [e1] at e
        cases e
        obtain ⟨l, vs, rfl, h1, r1⟩ := bodyL ra
        cases bools_ok r1 e1
        exact cr_all hc pins s σ H _ us Q I rs ⟨l, ns, rfl, SqL.of h1, endC q (show RelD G pn O H (.bl _) (.bl _) from rfl)⟩
  · cases e
theorem c_any (hc : X.calm = true) : CallR X (.builtin "any") (rPn G pn (pr G.T .any)) := by
  intro pins s σ H xs us Q I rs ⟨O, ds, d, hO, hr, e, q⟩
  replace e : pAll (fun bs => bs.any id) ds = some d := e
  unfold pAll at e
  split at e
  · rename_i o ys
    cases hr with
    | cons ra hr =>
      cases hr
      cases e1 : boolsD ys with
      | none => rw [e1] at e; cases e
      | some ns =>
        rw [e1] at e
        cases e
        obtain ⟨l, vs, rfl, h1, r1⟩ := bodyL ra
        cases bools_ok r1 e1
        exact cr_any hc pins s σ H _ us Q I rs ⟨l, ns, rfl, SqL.of h1, endC q (show RelD G pn O H (.bl _) (.bl _) from rfl)⟩
  · cases e
end
end PI
/-! PI, part g: slices, reversed ones, repr. -/
namespace PI
open PySem PySem.Spec L2 PyProof.Rows
section
variable {prog : Program} {w : World} {A : Around} {E : Value → Shared → Prop} {s : Shared}
theorem adjust_rev (n : Nat) : Builtin.Slice.sliceAdjust none none (-1) (n : Int) = ((n : Int) - 1, -1) := rfl
theorem places_rev (n : Nat) : Builtin.Slice.slicePlaces ((n : Int) - 1) (-1) (-1) = n := by
  unfold Builtin.Slice.slicePlaces
  have h1 : ¬ ((-1 : Int) > 0) := by decide
  simp only [h1, if_false]
  have e : ((n : Int) - 1 - -1 - 1) / (- -1) = (n : Int) - 1 := by
    rw [show (- -1 : Int) = 1 by decide, Int.ediv_one]
    omega
  split
  · first
    | (rw [e]; omega)
    | omega
    | (rw [show (- -1 : Int) = 1 by decide, Int.ediv_one]; omega)
  · omega
theorem sliceApplied_rev {sl : Addr} {vl vu vs : Value} {n : Nat} {Q : Int × Int × Nat → Shared → Prop} (hs : s.heap.IsSliceOf sl vl vu vs) (pl : IsPart vl none) (pu : IsPart vu none) (ps : IsPart vs (some (-1)))
    (h : Q ((n : Int) - 1, -1, n) s) : wpAny (model prog w) A (Builtin.Slice.sliceApplied (.ref sl) (pure (n : Int))) Q E s := by
  obtain ⟨os, hos, hcs, hds⟩ := id hs
  unfold Builtin.Slice.sliceApplied Builtin.Slice.sliceFields
  refine wpAny_bind (wpAny_bind (wpAny_field hos hds (x := vl) rfl (wpAny_bind (wpAny_field hos hds (x := vu) rfl (wpAny_bind (wpAny_field hos hds (x := vs) rfl (wpAny_pure ?_)))))))
  refine wpAny_bind (HT.slicePart_ ps ?_)
  show wpAny _ _ (if ((-1 : Int) == 0) = true then _ else _) _ _ s
  rw [if_neg (by decide)]
  refine wpAny_bind (HT.slicePart_ pl (wpAny_bind (HT.slicePart_ pu (wpAny_bind (wpAny_pure ?_)))))
  show wpAny _ _ (match Builtin.Slice.sliceAdjust none none (-1) (n : Int) with | (lo, hi) => pure (lo, (-1 : Int), Builtin.Slice.slicePlaces lo hi (-1))) _ _ s
  rw [adjust_rev]
  show wpAny _ _ (pure ((n : Int) - 1, (-1 : Int), Builtin.Slice.slicePlaces ((n : Int) - 1) (-1) (-1))) _ _ s
  rw [places_rev]
  exact wpAny_pure h
theorem pick_rev (xs : Array Value) : ((List.range xs.size).filterMap fun (m : Nat) => xs[(((xs.size : Nat) : Int) - 1 + (m : Int) * (-1)).toNat]?).toArray = xs.toList.reverse.toArray := by
  have e : ((List.range xs.size).filterMap fun (m : Nat) => xs[(((xs.size : Nat) : Int) - 1 + (m : Int) * (-1)).toNat]?) = ((List.range xs.size).map fun k => xs.size - 1 - k).filterMap (xs[·]?) := by
    rw [List.filterMap_map]
    have cg : ∀ (l : List Nat) (f g : Nat → Option Value), (∀ m ∈ l, f m = g m) → l.filterMap f = l.filterMap g := by
      intro l f g h
      induction l with
      | nil => rfl
      | cons a l ih => rw [List.filterMap_cons, List.filterMap_cons, h a (List.mem_cons_self ..), ih fun m hm => h m (List.mem_cons_of_mem _ hm)]
    refine cg _ _ _ fun m hm => ?_
    have h1 := List.mem_range.mp hm
    show xs[(((xs.size : Nat) : Int) - 1 + (m : Int) * (-1)).toNat]? = xs[xs.size - 1 - m]?
    rw [show (((xs.size : Nat) : Int) - 1 + (m : Int) * (-1)).toNat = xs.size - 1 - m by omega]
  rw [e, PySem.W.krv_range, List.filterMap_reverse, PySem.W.krv_all]
theorem getItem_tuple_rev {t sl : Addr} {items : Array Value} {vl vu vs : Value} {Q : Value → Shared → Prop} (ht : IsTup s.heap t items) (hs : s.heap.IsSliceOf sl vl vu vs) (pl : IsPart vl none) (pu : IsPart vu none) (ps : IsPart vs (some (-1)))
    (h : Q (.ref s.heap.objs.size) { s with heap := s.heap.push { cls := .type "tuple", data := .seq items.toList.reverse.toArray } })
    (hsz : items.size ≤ sizeLine) : wpAny (model prog w) A (getItem (.ref t) (.ref sl)) Q E s := by
  have htake : sizeOk (.seq items.toList.reverse.toArray) := by
    show items.toList.reverse.toArray.size ≤ sizeLine
    rw [List.size_toArray, List.length_reverse, Array.length_toList]
    exact hsz
  obtain ⟨os, hos, hcs, hds⟩ := id hs
  have hTs : s.TypeIs (.ref sl) "slice" := ⟨os, hos, hcs⟩
  unfold getItem
  try with_reducible refine wpAny_holding ?_
  first | refine wpAny_bind (wpAny_pure ?_) | skip
  refine wpAny_bind (wpAny_sequenceKey ht.typeIs (by decide) ?_)
  refine wpAny_bind (wpAny_callSpecial?_slot (name := Str.ofString "__getitem__") ht.typeIs PyProof.Rows.slot_tuple_getitem
    (wpAny_call_entry PyProof.Rows.slot_tuple_getitem ht.typeIs entry_tuple_getitem ?_ (args_tuple_getitem _ _)))
  show wpAny _ _ (Builtin.Tuple.tupleItemsOf (.ref t) >>= _) _ _ s
  refine wpAny_bind (tupleItemsOf_ ht ?_)
  refine wpAny_bind (wpAny_typeOf hTs ?_)
  rw [if_pos (by decide)]
  refine wpAny_bind (sliceApplied_rev hs pl pu ps ?_)
  have hno : ¬ ((((items.size : Nat) : Int) - 1 == 0 && (-1 : Int) == 1 && items.size == items.size) = true) := by
    intro q
    rw [Bool.and_eq_true, Bool.and_eq_true] at q
    exact absurd q.1.2 (by decide)
  show wpAny _ _ (if (((items.size : Nat) : Int) - 1 == 0 && (-1 : Int) == 1 && items.size == items.size) = true then _ else _) _ _ s
  rw [if_neg hno, pick_rev]
  first
    | exact wpAny_bind (m := Builtin.Tuple.tupleExact _) (wpAny_newObj_type (wpAny_pure ⟨_, rfl, wpAny_pure h⟩) htake)
    | exact wpAny_bind (m := Builtin.Tuple.tupleExact _) (wpAny_newObj_type (wpAny_bind (wpAny_pure (wpAny_pure ⟨_, rfl, wpAny_pure h⟩))) htake)
    | exact wpAny_bind (wpAny_bind (m := Builtin.Tuple.tupleExact _) (wpAny_newObj_type (wpAny_pure (wpAny_pure ⟨_, rfl, wpAny_pure h⟩)) htake))
    | exact wpAny_bind (wpAny_bind (m := Builtin.Tuple.tupleExact _) (wpAny_newObj_type (wpAny_pure ⟨_, rfl, wpAny_pure h⟩) htake))
end
section
variable {X : Cx} {G : Txt} {pn : List (Addr × Obj)}
def tRevU (r : V → Hp → VK → Prop) (te : TE) : TE := fun σ H Q => te σ H fun x H1 => r x H1 Q
/-- xs[::-1], lists and tuples -/
theorem pe_revA {e : Expr} {te : TE} {k : Nat} {p1 p2 p3 pos : Pos} (hK : X.K = G.K) (he : PE X e te) : PE X (.Subscript e (.Slice none none (some (.UnaryOp .USub (.Constant (.int 1) k p1) p2)) p3) pos) (tRevU (rP1 G pn (pr G.T .rev)) te) := by
  refine ⟨fun pins s σ H Q I h => ?_⟩
  refine Subscript_ (thn (he.run pins s σ H _ I h) fun v s1 ⟨x, H1, I1, r1, O, ds, d, hO, hr, e, q⟩ => ?_)
  have hst : PO X (some (.UnaryOp .USub (.Constant (.int 1) k p1) p2)) (tPart (tUn (rU fun i => .int (-i)) (tC (.int 1)))) := po_some (pe_un un_neg pe_int)
  refine wpAny_Slice (thn (po_none.run pins s1 σ H1 (fun o H2 => o = none ∧ H2 = H1) I1 ⟨rfl, rfl⟩) fun vl s2 ⟨l, H2, I2, pl, el, e2⟩ => ?_)
  subst el e2
  refine thn (po_none.run pins s2 σ H2 (fun o H3 => o = none ∧ H3 = H2) I2 ⟨rfl, rfl⟩) fun vu s3 ⟨u, H3, I3, pu, eu, e3⟩ => ?_
  subst eu e3
  refine thn (hst.run pins s3 σ H3 (fun o H4 => o = some (-1) ∧ H4 = H3) I3 ⟨1, rfl, -1, rfl, rfl, rfl⟩) fun vs s4 ⟨o, H4, I4, ps, eo, e4⟩ => ?_
  subst eo e4
  have I5 : Inv X pins σ H4 { s4 with heap := s4.heap.push { cls := .type "slice", data := .fields #[vl, vu, vs] } } := I4.kept (t' := s4.toks) fun b ob q => Heap.get?_push_of_some _ q
  obtain ⟨a, rfl, ra⟩ := pair1 hr
  replace e : pRev [a] = some d := e
  unfold pRev at e
  split at e
  · rename_i ys e1
    cases e1
    cases e
    obtain ⟨l, ws, e0, h1, r2⟩ := bodyT hK ra
    subst e0
    cases r1
    obtain ⟨its, r, ht, hz⟩ := I5.tuple h1
    have hlen := r.length
    refine tail_any (ops := [.ref l, .ref s4.heap.objs.size]) ht.typeIs PyProof.Rows.slot_tuple_getitem.lookup ?_ (by with_unfolding_all rfl)
    refine getItem_tuple_rev ht (Heap.IsSliceOf.new _ vl vu vs) pl pu ps ?_ (by rw [List.size_toArray]; omega)
    refine ⟨.ref _, _, I5.laid (t' := s4.toks) (o := .tup ws.reverse) (fun b ob q => Heap.get?_push_of_some _ q) (Nat.le_refl _) ?_, rfl, q _ _ (Ext.new (I5.hok.fresh (Nat.le_refl _))) (new_tup hO r2.reverse (I5.hok.fresh (Nat.le_refl _)))⟩
    exact ⟨by rw [List.length_reverse]; exact hz, _, r.reverse, IsTup.new _ _⟩
  · rename_i o ys e1
    cases e1
    cases e
    obtain ⟨l, ws, e0, h1, r2⟩ := bodyL ra
    subst e0
    cases r1
    obtain ⟨its, r, ht, hz⟩ := I5.list (SqL.of h1)
    have hlen := r.length
    refine tail_any (ops := [.ref l, .ref s4.heap.objs.size]) ht.isList.typeIs (PySem.slot_list_getitem.lookup) ?_ (by with_unfolding_all rfl)
    refine wpAny_getItem_list_slice ht.isList (Heap.IsSliceOf.new _ vl vu vs) pl pu ps (by decide) ?_ (by rw [List.size_toArray]; omega)
    rw [PySem.W.krv_pick]
    refine ⟨.ref _, _, I5.laid (t' := s4.toks) (o := .lst ws.reverse) (fun b ob q => Heap.get?_push_of_some _ q) (Nat.le_refl _) ?_, rfl, q _ _ (Ext.new (I5.hok.fresh (Nat.le_refl _))) (new_lst r2.reverse (I5.hok.fresh (Nat.le_refl _)))⟩
    exact ⟨by rw [List.length_reverse]; exact hz, _, 0, r.reverse, Heap.get?_push_size _ rfl⟩
  · cases e
/-- a slice -/
def rSl (G : Txt) (pn : List (Addr × Obj)) : V → Option Int → Option Int → Hp → VK → Prop := fun x lo hi H Q =>
  ∃ O a d, (∀ b, O b → H b ≠ none) ∧ BodyR G pn O H a x ∧ (match a with
    | .tup xs => some (D.tup (cutD xs lo hi))
    | .lst _ xs => some (.lst true (cutD xs lo hi))
    | _ => none) = some d ∧ ∀ v H', Ext H H' → NewR G pn O H H' d v → Q v H'
theorem RelDs.cut {O : Addr → Prop} {H : Hp} {ds : List D} {vs : List V} (h : RelDs G pn O H ds vs) (lo hi : Option Int) : RelDs G pn O H (cutD ds lo hi) (cutV vs lo hi) := by
  unfold cutD cutV
  rw [h.length]
  exact RelDs.take _ (RelDs.drop _ h)
theorem cutD_whole {ds : List D} {lo hi : Option Int} (h : HT.sIx ds.length 0 lo = 0 ∧ HT.sIx ds.length ds.length hi = ds.length) : cutD ds lo hi = ds := by
  unfold cutD
  rw [h.1, h.2]
  simp
theorem s_sl (hK : X.K = G.K) : SlR X (rSl G pn) := by
  intro pins s σ H x v vl vu lo hi sl Q I rx hs pl pu ⟨O, a, d, hO, ra, e, q⟩
  cases a with
  | tup xs =>
    cases e
    obtain ⟨l, ws, e0, h1, r2⟩ := bodyT hK ra
    have hl := r2.length
    refine sl_tupA pins s σ H x v vl vu lo hi sl Q I rx hs pl pu ⟨l, ws, e0, h1, fun z => ?_, fun _ p hp => q _ _ (Ext.new hp) (new_tup hO (r2.cut lo hi) hp)⟩
    rw [hl] at z
    rw [cutD_whole z] at q
    rw [← e0]
    exact endC q ra
  | lst o xs =>
    cases e
    obtain ⟨l, ws, e0, h1, r2⟩ := bodyL ra
    exact sl_list pins s σ H x v vl vu lo hi sl Q I rx hs pl pu ⟨l, ws, e0, SqL.of h1, fun p hp => q _ _ (Ext.new hp) (new_lst (r2.cut lo hi) hp)⟩
  | _ => cases e
theorem sm_ne (c : Cnd X G) {pins : List (Addr × Obj)} {σ : L2.St} {H : Hp} {s : Shared} (I : L2.Inv X pins σ H s) {a : Addr} {o : HO} (e : H a = some o) : sysModules ≠ a := fun z => by
  obtain ⟨ob, h⟩ := c.sm
  have h2 := (I.bs _ _ (I.mod.kin _ _ h)).2
  rw [z, e] at h2
  cases h2
theorem zip_fst' {α β : Type} : ∀ {xs : List α} {ys : List β}, xs.length = ys.length → (xs.zip ys).map (·.1) = xs
  | [], [], _ => rfl
  | x :: xs, y :: ys, h => by rw [List.zip_cons_cons, List.map_cons, zip_fst' (by simpa using h)]
theorem zip_snd' {α β : Type} : ∀ {xs : List α} {ys : List β}, xs.length = ys.length → (xs.zip ys).map (·.2) = ys
  | [], [], _ => rfl
  | x :: xs, y :: ys, h => by rw [List.zip_cons_cons, List.map_cons, zip_snd' (by simpa using h)]
theorem pys_len : ∀ {ds : List D} {ps : List PyData}, D.pys ds = some ps → ps.length = ds.length
  | [], ps, e => by
    unfold D.pys at e
    cases e
    rfl
  | d :: ds, ps, e => by
    unfold D.pys at e
    split at e
    · rename_i a b q1 q2
      cases e
      rw [List.length_cons, List.length_cons, pys_len q2]
    · cases e
theorem pairs_vals {P : Program} {w : World} : ∀ {l : List DictEntry} {vs : List (Key × Value)} {kvs : List (Key × V)}, Pairs (mixKind P w) l vs → KV kvs vs → Vals (kvs.map fun p => kV p.1) (l.map (·.key)) ∧ Vals (kvs.map (·.2)) (l.map (·.val))
  | _, _, _, .nil, r => by
    cases r
    exact ⟨.nil, .nil⟩
  | e :: l, u :: vs, _, .cons q1 q2 q3, r => by
    cases r with
    | cons r1 r2 =>
      rename_i p kvs
      obtain ⟨h1, h2⟩ := pairs_vals q3 r2
      have e1 : L2.RelV (kV p.1) e.key := by
        rw [r1.1]
        rcases keyIs_shape q1 with ⟨i, t, e1, e2⟩ | ⟨x, t, e1, e2⟩
        · rw [e1, e2]
          exact ⟨t, rfl⟩
        · rw [e1, e2]
          exact ⟨t, rfl⟩
      have e2 : L2.RelV p.2 e.val := by
        rw [q2]
        exact r1.2
      exact ⟨.cons e1 h1, .cons e2 h2⟩
/-- a dict's entries -/
theorem dic_ents {pins : List (Addr × Obj)} {σ : L2.St} {H : Hp} {s : Shared} (I : L2.Inv X pins σ H s) {a : Addr} {kvs : List (Key × V)} (e : H a = some (.dK kvs)) : (a == sysModules) = false ∧ ∃ o es ep, s.heap.get? a = some o ∧ o.cls = .type "dict" ∧ o.data = .dict es ep ∧ Vals (kvs.map fun p => kV p.1) (es.toList.map (·.key)) ∧ Vals (kvs.map (·.2)) (es.toList.map (·.val)) := by
  obtain ⟨z, hS, vs, r, o, es, ep, h1, h2, h3, h4, h5, h6⟩ := dk_of I.hok e
  exact ⟨hS, o, es, ep, h1, h2.1, h3, pairs_vals h5 r⟩
theorem sm_app {as bs : List Addr} (h1 : sysModules ∉ as) (h2 : sysModules ∉ bs) : sysModules ∉ as ++ bs := fun z => (List.mem_append.mp z).elim h1 h2
mutual
theorem RelD.reads (c : Cnd X G) {pins : List (Addr × Obj)} {σ : L2.St} {H : Hp} {s : Shared} (I : L2.Inv X pins σ H s) {O : Addr → Prop} : ∀ (d : D) (v : V) (u : Value) (p : PyData), RelD G pn O H d v → d.py = some p → L2.RelV v u → ∃ as, Reads s.heap u p as ∧ sysModules ∉ as
  | .non, v, u, p, h, e, r => by
    cases e
    cases (show v = .non from h)
    cases r
    exact ⟨_, Reads.none, fun z => by cases z⟩
  | .bl b, v, u, p, h, e, r => by
    cases e
    cases (show v = .bl b from h)
    cases r
    exact ⟨_, Reads.bool b, fun z => by cases z⟩
  | .int i, v, u, p, h, e, r => by
    cases e
    cases (show v = .int i from h)
    obtain ⟨t, rfl⟩ := r
    exact ⟨_, Reads.int i t, fun z => by cases z⟩
  | .str x, v, u, p, h, e, r => by
    cases e
    cases (show v = .str x from h)
    obtain ⟨t, rfl⟩ := r
    exact ⟨_, Reads.str x t, fun z => by cases z⟩
  | .tup xs, v, u, p, h, e, r => by
    unfold D.py at e
    cases q : D.pys xs with
    | none => rw [q] at e; cases e
    | some ps =>
      rw [q] at e
      cases e
      obtain ⟨a, vs, rfl, h1, h2⟩ := tup_of h
      cases r
      rw [← c.K] at h1
      obtain ⟨its, rv, ⟨o, ho, hc, n, hd⟩, _⟩ := I.tuple h1
      obtain ⟨as, hr, hs⟩ := RelDs.reads c I xs vs its ps h2 q rv
      exact ⟨_, Reads.tuple ho hc hd hr, hs⟩
  | .lst o xs, v, u, p, h, e, r => by
    unfold D.py at e
    cases q : D.pys xs with
    | none => rw [q] at e; cases e
    | some ps =>
      rw [q] at e
      cases e
      obtain ⟨_, a, vs, rfl, _, h1, h2⟩ := h
      cases r
      obtain ⟨its, rv, ⟨o, n, ho, hc, _, hd⟩, _⟩ := I.list (SqL.of h1)
      obtain ⟨as, hr, hs⟩ := RelDs.reads c I xs vs its ps h2 q rv
      exact ⟨_, Reads.list ho hc hd hr, fun z => (List.mem_cons.mp z).elim (sm_ne c I h1) hs⟩
  | .scr _, _, _, _, _, e, _ => by
    unfold D.py at e
    cases e
  | .dic o ks ds, v, u, p, h, e, r => by
    unfold D.py at e
    cases q1 : D.pys ks with
    | none => rw [q1] at e; cases e
    | some a =>
      cases q2 : D.pys ds with
      | none => rw [q1, q2] at e; cases e
      | some b =>
        rw [q1, q2] at e
        cases e
        obtain ⟨_, x, kvs, rfl, _, h1, h2, h3⟩ := h
        cases r
        obtain ⟨hS, o, es, ep, g1, g2, g3, g4, g5⟩ := dic_ents I h1
        obtain ⟨as, hr, hs⟩ := RelDs.reads c I ks _ _ a h2 q1 g4
        obtain ⟨bs, hr2, hs2⟩ := RelDs.reads c I ds _ _ b h3 q2 g5
        have el : a.length = b.length := by
          rw [pys_len q1, pys_len q2]
          have l1 := h2.length
          have l2 := h3.length
          rw [List.length_map] at l1 l2
          omega
        refine ⟨_, Reads.dict g1 g2 g3 (by rw [zip_fst' el]; exact hr) (by rw [zip_snd' el]; exact hr2), fun z => ?_⟩
        rcases List.mem_append.mp z with z | z
        · rcases List.mem_cons.mp z with z | z
          · rw [← z] at hS
            simp at hS
          · exact hs z
        · exact hs2 z
  | .ins .., _, _, _, _, e, _ => by
    unfold D.py at e
    cases e
  | .fn _, _, _, _, _, e, _ => by
    unfold D.py at e
    cases e
  | .exc .., _, _, _, _, e, _ => by
    unfold D.py at e
    cases e
theorem RelDs.reads (c : Cnd X G) {pins : List (Addr × Obj)} {σ : L2.St} {H : Hp} {s : Shared} (I : L2.Inv X pins σ H s) {O : Addr → Prop} : ∀ (ds : List D) (vs : List V) (us : List Value) (ps : List PyData), RelDs G pn O H ds vs → D.pys ds = some ps → Vals vs us → ∃ as, ReadsAll s.heap us ps as ∧ sysModules ∉ as
  | [], vs, us, ps, h, e, r => by
    unfold D.pys at e
    cases e
    cases (show vs = [] from h)
    cases r
    exact ⟨_, ReadsAll.nil, fun z => by cases z⟩
  | d :: ds, vs, us, ps, ⟨v, r, e0, h1, h2⟩, e, hv => by
    subst e0
    unfold D.pys at e
    split at e
    · rename_i p1 ps1 q1 q2
      cases e
      cases hv with
      | cons r1 r2 =>
        obtain ⟨as, k1, k2⟩ := RelD.reads c I d v _ p1 h1 q1 r1
        obtain ⟨bs, k3, k4⟩ := RelDs.reads c I ds r _ ps1 h2 q2 r2
        exact ⟨_, ReadsAll.cons k1 k3, sm_app k2 k4⟩
    · cases e
end
theorem BodyR.reads (c : Cnd X G) {pins : List (Addr × Obj)} {σ : L2.St} {H : Hp} {s : Shared} (I : L2.Inv X pins σ H s) {O : Addr → Prop} {d : D} {v : V} {u : Value} {p : PyData} (h : BodyR G pn O H d v) (e : d.py = some p) (r : L2.RelV v u) : ∃ as, Reads s.heap u p as ∧ sysModules ∉ as := by
  have key : ∀ {d : D}, RelD G pn (fun _ => False) H d v → d.py = some p → ∃ as, Reads s.heap u p as ∧ sysModules ∉ as := fun {d} h e => RelD.reads c I d v u p h e r
  cases d with
  | lst o xs =>
    obtain ⟨a, vs, e1, h1, h2⟩ := h
    exact key (d := .lst false xs) ⟨rfl, a, vs, e1, fun z => z, h1, RelDs.less h2 fun b q => q.elim⟩ (by rw [← e]; unfold D.py; rfl)
  | dic o ks ds =>
    obtain ⟨a, kvs, e1, h1, h2, h3⟩ := h
    exact key (d := .dic false ks ds) ⟨rfl, a, kvs, e1, fun z => z, h1, RelDs.less h2 fun b q => q.elim, RelDs.less h3 fun b q => q.elim⟩ (by rw [← e]; unfold D.py; rfl)
  | ins o C vs =>
    unfold D.py at e
    cases e
  | _ => exact RelD.reads c I _ v u p h e r
theorem c_repr (c : Cnd X G) : CallR X (.builtin "repr") (rPn G pn (pr G.T .repr)) := by
  intro pins s σ H xs us Q I rs ⟨O, ds, d, hO, hr, e, q⟩
  replace e : p1 (fun d => (reprD d).map D.str) ds = some d := e
  unfold p1 at e
  split at e
  · rename_i a
    replace e : (reprD a).map D.str = some d := e
    cases hr with
    | cons ra hr =>
      cases hr
      rename_i x
      cases e1 : reprD a with
      | none => rw [e1] at e; cases e
      | some z =>
        rw [e1] at e
        cases e
        have qz : Q (.str z) H := endC q (show RelD G pn O H (.str z) (.str z) from rfl)
        unfold reprD at e1
        split at e1
        · rename_i p ep
          split at e1
          · rename_i hs
            rw [Bool.and_eq_true, Bool.and_eq_true, decide_eq_true_eq, decide_eq_true_eq] at hs
            cases e1
            obtain ⟨u, rfl, ru⟩ := vals1 rs
            obtain ⟨as, rd, hnd'⟩ := ra.reads c I ep ru
            have hu := c.units
            have hnd : p.hasDict = true → sysModules ∉ as := fun _ => hnd'
            cases p with
            | int i =>
              cases rd
              exact PySem.P.repr_of_int (by simpa [PyData.showable] using hs.1.1) ⟨.str _, H, I.tok _, ⟨_, rfl⟩, by simpa [PyData.shown] using qz⟩
            | list ps =>
              cases rd with
              | list g1 g2 g3 g4 => exact repr_of_reads' (Reads.list g1 g2 g3 g4) hs.1.1 hnd c.guards (by omega) (fun b o e => e) (fun h' u tk hk => ⟨.str _, H, I.kept hk, ⟨_, rfl⟩, qz⟩) (by rw [sizeLine_eq]; exact hs.1.2)
            | tuple ps =>
              cases rd with
              | tuple g1 g2 g3 g4 => exact repr_of_reads' (Reads.tuple g1 g2 g3 g4) hs.1.1 hnd c.guards (by omega) (fun b o e => e) (fun h' u tk hk => ⟨.str _, H, I.kept hk, ⟨_, rfl⟩, qz⟩) (by rw [sizeLine_eq]; exact hs.1.2)
            | dict ps =>
              cases rd with
              | dict g1 g2 g3 g4 g5 => exact repr_of_reads' (Reads.dict g1 g2 g3 g4 g5) hs.1.1 hnd c.guards (by omega) (fun b o e => e) (fun h' u tk hk => ⟨.str _, H, I.kept hk, ⟨_, rfl⟩, qz⟩) (by rw [sizeLine_eq]; exact hs.1.2)
            | none =>
              cases rd
              exact PySem.P.repr_of_none ⟨.str _, H, I.tok _, ⟨_, rfl⟩, by simpa [PyData.shown] using qz⟩
            | bool b =>
              cases rd
              exact PySem.P.repr_of_bool ⟨.str _, H, I.tok _, ⟨_, rfl⟩, by simpa [PyData.shown] using qz⟩
            | str b =>
              cases rd
              exact PySem.P.repr_of_str ⟨.str _, H, I.tok _, ⟨_, rfl⟩, by simpa [PyData.shown] using qz⟩ (by rw [sizeLine_eq]; simpa [PyData.shown] using hs.1.2)
          · cases e1
        · cases e1
  · cases e
end
end PI
/-! PI, part h: expressions but calls and comprehensions. -/
namespace PI
open PySem PySem.Spec L2 PyProof.Rows
section
variable {X : Cx} {G : Txt} {pn : List (Addr × Obj)} {W : WX} {C : Ctx} {pos : Pos}
/-! ### names and constants -/
theorem r_var {x : Str} {i : Nat} (hN : X.N[i]? = some x) (hv : Vis X.env.scope x) (hd : (x == ("__debug__" : Str)) = false) (hcd : (x == ("__classdict__" : Str)) = false) : DE X G pn W (.Name x pos) (ev C (.var i)) := by
  refine PE.imp (pe_var hN hv hd hcd) fun σ H Q ⟨Of, ρ, S, hp⟩ => ?_
  unfold ev at hp
  cases e : rdS ρ i with
  | none => simp only [e] at hp; exact hp.elim
  | some d =>
    simp only [e] at hp
    obtain ⟨v, h1, _, h2⟩ := S.rel i d e
    cases ho : d.own with
    | true => rw [ho] at hp; exact (show False from hp).elim
    | false =>
      rw [ho] at hp
      exact ⟨v, h1, PostG.now S (ValR.of (h2 ho)) hp⟩
theorem r_const {e : Expr} {c : CE} {d : D} {v : V} (h : PE X e (tC v)) (he : ev C c = .ok d) (r : ∀ (O : Addr → Prop) (H : Hp), RelD G pn O H d v) : DE X G pn W e (ev C c) := by
  refine PE.imp h fun σ H Q ⟨Of, ρ, S, hp⟩ => ?_
  rw [he] at hp
  exact PostG.now S (ValR.of (r _ _)) hp
theorem r_glob {e : Expr} {k : Nat} {d : D} {v : V} (h : PE X e (tC v)) (he : C.gv k = some d) (r : ∀ (O : Addr → Prop) (H : Hp), RelD G pn O H d v) : DE X G pn W e (ev C (.glob k)) := by
  refine PE.imp h fun σ H Q ⟨Of, ρ, S, hp⟩ => ?_
  unfold ev at hp
  rw [he] at hp
  exact PostG.now S (ValR.of (r _ _)) hp
/-! ### tuples and lists written out -/
theorem ValR.new {Of : Addr → Prop} {H H' : Hp} {ρ : Env} {σ : L2.St} {d : D} {v : V} (S : SR G pn Of H ρ σ) (e : Ext H H') (r : NewR G pn (Oo Of ρ σ) H H' d v) : ValR G pn Of ρ σ H H' d v := by
  refine ⟨r.1, fun z => ?_⟩
  obtain ⟨a, o, ev, n, t, nt, b⟩ := r.2 z
  refine ⟨a, ev, n, S.fresh e n t nt, b.mono Kp.refl (fun c q => .inl ?_) (fun _ _ _ _ z => z) fun z' => by rw [z] at z'; cases z'⟩
  rcases q with (q | q) | q
  · exact .inl (.inl q)
  · exact .inr q
  · exact .inl (.inr q)
theorem r_tup {es : List Expr} {cs : CEs} {k : Nat} (h : DAs X G pn W es (evs C cs)) (hl : es.length ≤ 1000) (hn : ∀ {ρ ρ' : Env} {as : List Ar}, evs C cs ρ = .ok as ρ' → as.length ≤ 1000) : DE X G pn W (.Tuple es k pos) (ev C (.tup cs)) := by
  refine PE.imp (pe_tup h) fun σ H Q ⟨Of, ρ, S, hp⟩ => ⟨Of, ρ, S, ?_⟩
  unfold ev at hp
  refine PostG.mono (PostG.bind (R1 := ArsR G pn) back_val hp) fun vs H1 ⟨as, ρ1, ee, _, _, S1, r, q⟩ => ?_
  cases e : ardD as with
  | none => rw [e] at q; exact (show False from q).elim
  | some ds =>
    rw [e] at q
    refine ⟨?_, fun p hp => prim_post S1 q _ _ (Ext.new hp) (new_tup S1.hO (ardD_ok r e) hp)⟩
    have := Paired.length r
    have := hn ee
    rw [sizeLine_eq]
    omega
theorem r_lst {es : List Expr} {cs : CEs} (h : DAs X G pn W es (evs C cs)) (hn : ∀ {ρ ρ' : Env} {as : List Ar}, evs C cs ρ = .ok as ρ' → as.length ≤ 1000) : DE X G pn W (.List es pos) (ev C (.lst cs)) := by
  refine PE.imp (pe_lst h) fun σ H Q ⟨Of, ρ, S, hp⟩ => ⟨Of, ρ, S, ?_⟩
  unfold ev at hp
  refine PostG.mono (PostG.bind (R1 := ArsR G pn) back_val hp) fun vs H1 ⟨as, ρ1, ee, _, _, S1, r, q⟩ => ?_
  cases e : ardD as with
  | none => rw [e] at q; exact (show False from q).elim
  | some ds =>
    rw [e] at q
    refine ⟨?_, fun p hp => prim_post S1 q _ _ (Ext.new hp) (new_lst (ardD_ok r e) hp)⟩
    have := Paired.length r
    have := hn ee
    rw [sizeLine_eq]
    omega
def CEs.len : CEs → Nat
  | .nil => 0
  | .cons _ r => r.len + 1
theorem evs_len : ∀ {cs : CEs} {ρ ρ' : Env} {as : List Ar}, evs C cs ρ = .ok as ρ' → as.length = cs.len
  | .nil, ρ, ρ', as, h => by
    unfold evs at h
    cases h
    rfl
  | .cons a r, ρ, ρ', as, h => by
    unfold evs bd at h
    cases e : eva C a ρ with
    | stuck => rw [e] at h; cases h
    | exc _ _ => rw [e] at h; cases h
    | ok x ρ1 =>
      rw [e] at h
      simp only [bd] at h
      cases e2 : evs C r ρ1 with
      | stuck => rw [e2] at h; cases h
      | exc _ _ => rw [e2] at h; cases h
      | ok xs ρ2 =>
        rw [e2] at h
        cases h
        simp [evs_len e2, CEs.len]
/-! ### primitives -/
theorem ev_pr {p : Pr} {es : CEs} (hT : C.T = G.T) : ev C (.pr p es) = bd (evs C es) fun as ρ => ofO ((ard ρ as).bind (pr G.T p)) ρ := by
  rw [ev, hT]
theorem r_bin {p : Pr} {op : Operator} {a b : Expr} {x y : CA} (hT : C.T = G.T) (ho : OpR X (binaryOp op) (rP2 G pn (pr G.T p))) (ha : DA X G pn W a (eva C x)) (hb : DA X G pn W b (eva C y)) : DE X G pn W (.BinOp a op b pos) (ev C (.pr p (.cons x (.cons y .nil)))) :=
  PE.imp (pe_op ho ha hb) fun σ H Q h => prim_two (by rw [ev_pr hT] at h; exact h)
theorem r_cmp {p : Pr} {op : CmpOp} {a b : Expr} {x y : CA} (hT : C.T = G.T) (ho : OpR X (compareOp op) (rP2 G pn (pr G.T p))) (ha : DA X G pn W a (eva C x)) (hb : DA X G pn W b (eva C y)) (hm : behindInMarks op b = false) : DE X G pn W (.Compare a [op] [b] pos) (ev C (.pr p (.cons x (.cons y .nil)))) :=
  PE.imp (pe_cmpR ho ha hb hm) fun σ H Q h => prim_two (by rw [ev_pr hT] at h; exact h)
theorem r_un {p : Pr} {op : UnaryOp} {a : Expr} {x : CA} (hT : C.T = G.T) (ho : UnR X (unaryOp op) (rP1 G pn (pr G.T p))) (ha : DA X G pn W a (eva C x)) : DE X G pn W (.UnaryOp op a pos) (ev C (.pr p (.cons x .nil))) :=
  PE.imp (pe_un ho ha) fun σ H Q h => prim_one (by rw [ev_pr hT] at h; exact h)
theorem r_idx {a b : Expr} {x y : CA} (c : Cnd X G) (hT : C.T = G.T) (ha : DA X G pn W a (eva C x)) (hb : DA X G pn W b (eva C y)) (hs : PlainIx b) : DE X G pn W (.Subscript a b pos) (ev C (.pr .idx (.cons x (.cons y .nil)))) :=
  PE.imp (pe_ix (o_idx c) ha hb hs) fun σ H Q h => prim_two (by rw [ev_pr hT] at h; exact h)
theorem r_rev {a : Expr} {x : CA} {k : Nat} {p1 p2 p3 : Pos} (c : Cnd X G) (hT : C.T = G.T) (ha : DA X G pn W a (eva C x)) : DE X G pn W (.Subscript a (.Slice none none (some (.UnaryOp .USub (.Constant (.int 1) k p1) p2)) p3) pos) (ev C (.pr .rev (.cons x .nil))) :=
  PE.imp (pe_revA c.K ha) fun σ H Q h => prim_one (by rw [ev_pr hT] at h; exact h)
theorem r_blt {p : Pr} {x : Str} {id : String} {e : Expr} {es : List Expr} {cs : CEs} {q : Pos} (hT : C.T = G.T) (hc : CallR X (.builtin id) (rPn G pn (pr G.T p))) (hg : Gl X x) (hm : X.mg x = none) (hv : bootBuiltins x = some (.builtin id)) (ha : DAs X G pn W (e :: es) (evs C cs))
    (hn : x ≠ "__name__") (hdb : (x == ("__debug__" : Str)) = false) (he : starEach (e :: es) X.env = (false, eval e X.env) :: starEach es X.env) (hpl : (backTo pos (starEach es X.env)).any (·.1) = false) : DE X G pn W (.Call (.Name x q) (e :: es) [] pos) (ev C (.pr p cs)) :=
  PE.imp (pe_callB hc hg hm hv ha hn hdb he hpl) fun σ H Q h => prim_many (by rw [ev_pr hT] at h; exact h)
theorem r_blf {p : Pr} {x : Str} {id : String} {e : Expr} {es : List Expr} {cs : CEs} {q : Pos} (hT : C.T = G.T) (hc : CallR X (.builtin id) (rPn G pn (pr G.T p))) (hg : Gl X x) (hm : X.mg x = some (.builtin id)) (ha : DAs X G pn W (e :: es) (evs C cs))
    (hdb : (x == ("__debug__" : Str)) = false) (he : starEach (e :: es) X.env = (false, eval e X.env) :: starEach es X.env) (hpl : (backTo pos (starEach es X.env)).any (·.1) = false) : DE X G pn W (.Call (.Name x q) (e :: es) [] pos) (ev C (.pr p cs)) :=
  PE.imp (pe_callBfun hc hg hm ha hdb he hpl) fun σ H Q h => prim_many (by rw [ev_pr hT] at h; exact h)
theorem r_bty {p : Pr} {x : Str} {T : String} {e : Expr} {es : List Expr} {cs : CEs} {q : Pos} (hT : C.T = G.T) (hc : CallR X (.type T) (rPn G pn (pr G.T p))) (hg : Gl X x) (hm : X.mg x = none) (hv : bootBuiltins x = some (.type T)) (ha : DAs X G pn W (e :: es) (evs C cs))
    (hn : x ≠ "__name__") (hdb : (x == ("__debug__" : Str)) = false) (he : starEach (e :: es) X.env = (false, eval e X.env) :: starEach es X.env) (hpl : (backTo pos (starEach es X.env)).any (·.1) = false) : DE X G pn W (.Call (.Name x q) (e :: es) [] pos) (ev C (.pr p cs)) :=
  PE.imp (pe_callTy hc hg hm hv ha hn hdb he hpl) fun σ H Q h => prim_many (by rw [ev_pr hT] at h; exact h)
/-! ### tests -/
/-- the truth of a value -/
theorem truth_fr (d : D) : truth d.fr = truth d := by cases d <;> rfl
theorem tru_post {Of : Addr → Prop} {H H0 : Hp} {ρ : Env} {σ : L2.St} {d : D} {v : V} {b : Bool} (c : Cnd X G) (r : ValR G pn Of ρ σ H0 H d v) (e : truth d = some b) : TruV X.K v H b := by
  cases ho : d.own with
  | false => exact truth_ok c.K (r.1 ho).body e
  | true =>
    obtain ⟨a, _, _, _, hb⟩ := r.2 ho
    exact truth_ok c.K hb e
theorem t_plain {e : Expr} {f : Env → Out D} (c : Cnd X G) (h : DE X G pn W e f) (he : ∀ whole, isTrue e X.env whole = (do let v ← whole; standAt e.pos; holding [v] (truthy v))) : DT X G pn W e (truM f) := by
  refine PT.imp (pt_truth h he) fun σ H Q ⟨Of, ρ, S, hp⟩ => ⟨Of, ρ, S, ?_⟩
  unfold truM at hp
  refine PostG.mono (PostG.bind (R1 := ValR G pn) back_bo hp) fun v H1 ⟨d, ρ1, ee, _, _, S1, r, q⟩ => ?_
  cases e1 : truth d with
  | none => simp only [e1] at q; exact (show False from q).elim
  | some b =>
    simp only [e1] at q
    exact ⟨b, tru_post c r e1, PostG.now (b := b) S1 (show BoR Of ρ1 σ H1 H1 b b from rfl) q⟩
/-- a test's outcomes one after another -/
theorem dt_bind {e : Expr} {f : Env → Out Bool} {g : Bool → Env → Out Bool} {σ : L2.St} {H : Hp} {Q : Bool → Hp → Prop} (h : tG G pn W BoR (bd f g) σ H Q) : tG G pn W BoR f σ H fun b H1 => tG G pn W BoR (g b) σ H1 Q := by
  obtain ⟨Of, ρ, S, hp⟩ := h
  refine ⟨Of, ρ, S, PostG.mono (PostG.bind (R1 := BoR) back_bo hp) fun b H1 ⟨a, ρ1, _, _, _, S1, r, q⟩ => ?_⟩
  cases (show b = a from r)
  exact ⟨Of, ρ1, S1, q⟩
theorem dt_val {f : Env → Out Bool} {g : Bool → Env → Out D} {σ : L2.St} {H : Hp} {Q : VK} (h : tG G pn W (ValR G pn) (bd f g) σ H Q) : tG G pn W BoR f σ H fun b H1 => tG G pn W (ValR G pn) (g b) σ H1 Q := by
  obtain ⟨Of, ρ, S, hp⟩ := h
  refine ⟨Of, ρ, S, PostG.mono (PostG.bind (R1 := BoR) back_val hp) fun b H1 ⟨a, ρ1, _, _, _, S1, r, q⟩ => ?_⟩
  cases (show b = a from r)
  exact ⟨Of, ρ1, S1, q⟩
theorem dt_ok {b : Bool} {σ : L2.St} {H : Hp} {Q : Bool → Hp → Prop} (h : tG G pn W BoR (.ok b) σ H Q) : Q b H := by
  obtain ⟨Of, ρ, S, hp⟩ := h
  exact PostG.now (b := b) S (show BoR Of ρ σ H H b b from rfl) hp
theorem truM_not {a : CE} : truM (ev C (.pr .not (.cons (.ex a) .nil))) = bd (truM (ev C a)) fun b => .ok (!b) := by
  funext ρ
  unfold truM
  simp only [ev, evs, eva, bd]
  cases e : ev C a ρ with
  | stuck => rfl
  | exc _ _ => rfl
  | ok d ρ1 =>
    simp only [ard]
    have e2 : (Option.map (fun x => d.fr :: x) (some [])).bind (pr C.T .not) = (truth d).map fun b => D.bl (!b) := by
      show (truth d.fr).map (fun b => D.bl (!b)) = _
      rw [truth_fr]
    rw [e2]
    cases truth d <;> rfl
theorem t_not {a : Expr} {x : CE} (h : DT X G pn W a (truM (ev C x))) : DT X G pn W (.UnaryOp .Not a pos) (truM (ev C (.pr .not (.cons (.ex x) .nil)))) := by
  refine PT.imp (pt_not h) fun σ H Q hq => ?_
  rw [truM_not] at hq
  obtain ⟨Of, ρ, S, hp⟩ := dt_bind (e := a) hq
  exact ⟨Of, ρ, S, PostG.mono hp fun b H1 q => dt_ok q⟩
theorem truM_and {a b : CE} : truM (ev C (.and a b)) = bd (truM (ev C a)) fun t => if t then truM (ev C b) else .ok false := by
  funext ρ
  unfold truM
  simp only [ev, bd]
  cases e : ev C a ρ with
  | stuck => rfl
  | exc _ _ => rfl
  | ok d ρ1 =>
    cases e1 : truth d with
    | none => simp only [e1]
    | some t =>
      cases t with
      | true => simp only [e1]; rfl
      | false => simp [e1, truth_fr]
theorem truM_or {a b : CE} : truM (ev C (.or a b)) = bd (truM (ev C a)) fun t => if t then .ok true else truM (ev C b) := by
  funext ρ
  unfold truM
  simp only [ev, bd]
  cases e : ev C a ρ with
  | stuck => rfl
  | exc _ _ => rfl
  | ok d ρ1 =>
    cases e1 : truth d with
    | none => simp only [e1]
    | some t =>
      cases t with
      | true => simp [e1, truth_fr]
      | false => simp only [e1]; rfl
theorem truM_ite {t a b : CE} : truM (ev C (.ite t a b)) = bd (truM (ev C t)) fun x => if x then truM (ev C a) else truM (ev C b) := by
  funext ρ
  have e0 : ev C (.ite t a b) = bd (truM (ev C t)) fun x => if x then ev C a else ev C b := by rw [ev]
  rw [e0]
  generalize truM (ev C t) = m
  unfold truM bd
  cases e : m ρ with
  | stuck => simp only [e]
  | exc _ _ => simp only [e]
  | ok d ρ1 => cases d <;> simp only [e] <;> rfl
/-- and, or as tests -/
def DTW (X : Cx) (G : Txt) (pn : List (Addr × Obj)) (W : WX) (e : Expr) (f : Env → Out Bool) : Prop := PW X e (tG G pn W BoR f)
theorem PW.imp {X : Cx} {e : Expr} {t t' : TT} (h : PW X e t) (hi : ∀ σ H Q, t' σ H Q → t σ H Q) : PW X e t' := ⟨fun wh pins s σ H Q I hw => h.run wh pins s σ H Q I (hi σ H Q hw)⟩
theorem t_and {a b : Expr} {rest : List Expr} {x y : CE} (h1 : DT X G pn W a (truM (ev C x))) (h2 : DTW X G pn W (.BoolOp .And (b :: rest) pos) (truM (ev C y))) : DTW X G pn W (.BoolOp .And (a :: b :: rest) pos) (truM (ev C (.and x y))) := by
  refine PW.imp (pw_and h1 h2) fun σ H Q hq => ?_
  rw [truM_and] at hq
  obtain ⟨Of, ρ, S, hp⟩ := dt_bind (e := a) hq
  refine ⟨Of, ρ, S, PostG.mono hp fun b H1 q => ?_⟩
  cases b with
  | true => exact q
  | false => exact dt_ok q
theorem t_or {a b : Expr} {rest : List Expr} {x y : CE} (h1 : DT X G pn W a (truM (ev C x))) (h2 : DTW X G pn W (.BoolOp .Or (b :: rest) pos) (truM (ev C y))) : DTW X G pn W (.BoolOp .Or (a :: b :: rest) pos) (truM (ev C (.or x y))) := by
  refine PW.imp (pw_or h1 h2) fun σ H Q hq => ?_
  rw [truM_or] at hq
  obtain ⟨Of, ρ, S, hp⟩ := dt_bind (e := a) hq
  refine ⟨Of, ρ, S, PostG.mono hp fun b H1 q => ?_⟩
  cases b with
  | true => exact dt_ok q
  | false => exact q
theorem t_ite {c a b : Expr} {t x y : CE} (h0 : DT X G pn W c (truM (ev C t))) (h1 : DT X G pn W a (truM (ev C x))) (h2 : DT X G pn W b (truM (ev C y))) : DT X G pn W (.IfExp c a b pos) (truM (ev C (.ite t x y))) := by
  refine ⟨fun pins s σ H Q I hq => ?_⟩
  rw [truM_ite] at hq
  show wpAny _ _ (do if ← isTrue c X.env (eval c X.env) then isTrue a X.env (eval a X.env) else isTrue b X.env (eval b X.env)) _ _ _
  refine wpAny_bind (thn (h0.run pins s σ H _ I (dt_bind (e := a) hq)) fun t s1 ⟨H1, I1, q1⟩ => ?_)
  cases t with
  | true => exact h1.run pins s1 σ H1 Q I1 q1
  | false => exact h2.run pins s1 σ H1 Q I1 q1
theorem r_ite {c a b : Expr} {t x y : CE} (h0 : DT X G pn W c (truM (ev C t))) (h1 : DE X G pn W a (ev C x)) (h2 : DE X G pn W b (ev C y)) : DE X G pn W (.IfExp c a b pos) (ev C (.ite t x y)) := by
  refine PE.imp (pe_ifExp h0 h1 h2) fun σ H Q hq => ?_
  have e0 : ev C (.ite t x y) = bd (truM (ev C t)) fun z => if z then ev C x else ev C y := by rw [ev]
  rw [e0] at hq
  obtain ⟨Of, ρ, S, hp⟩ := dt_val hq
  refine ⟨Of, ρ, S, PostG.mono hp fun b H1 q => ?_⟩
  cases b <;> exact q
/-! ### and, or as values -/
theorem r_and {a b : Expr} {rest : List Expr} {x y : CE} (c : Cnd X G) (h1 : DE X G pn W a (ev C x)) (h2 : DE X G pn W (.BoolOp .And (b :: rest) pos) (ev C y)) : DE X G pn W (.BoolOp .And (a :: b :: rest) pos) (ev C (.and x y)) := by
  refine ⟨fun pins s σ H Q I ⟨Of, ρ, S, hp⟩ => ?_⟩
  unfold ev at hp
  refine BoolOp_and (thn (h1.run pins s σ H _ I ⟨Of, ρ, S, PostG.bind (R1 := ValR G pn) back_val hp⟩) fun v s1 ⟨x1, H1, I1, r1, d, ρ1, _, _, _, S1, r, q⟩ => ?_)
  cases e1 : truth d with
  | none => simp only [e1] at q; exact (show False from q).elim
  | some t =>
    simp only [e1] at q
    refine thn (tru_ok pins s1 σ H1 x1 v (fun b H' => b = t ∧ H' = H1) I1 r1 ⟨t, tru_post c r e1, rfl, rfl⟩) fun b s2 ⟨H2, I2, eb, eh⟩ => ?_
    subst eb eh
    cases b with
    | true => exact h2.run pins s2 σ H2 Q I2 ⟨Of, ρ1, S1, q⟩
    | false => exact ⟨x1, H2, I2, r1, q x1 H2 Kp.refl (SameOwn.refl _) S1 (ValR.of (ValR.fr S r))⟩
theorem r_or {a b : Expr} {rest : List Expr} {x y : CE} (c : Cnd X G) (h1 : DE X G pn W a (ev C x)) (h2 : DE X G pn W (.BoolOp .Or (b :: rest) pos) (ev C y)) : DE X G pn W (.BoolOp .Or (a :: b :: rest) pos) (ev C (.or x y)) := by
  refine ⟨fun pins s σ H Q I ⟨Of, ρ, S, hp⟩ => ?_⟩
  unfold ev at hp
  refine BoolOp_or (thn (h1.run pins s σ H _ I ⟨Of, ρ, S, PostG.bind (R1 := ValR G pn) back_val hp⟩) fun v s1 ⟨x1, H1, I1, r1, d, ρ1, _, _, _, S1, r, q⟩ => ?_)
  cases e1 : truth d with
  | none => simp only [e1] at q; exact (show False from q).elim
  | some t =>
    simp only [e1] at q
    refine thn (tru_ok pins s1 σ H1 x1 v (fun b H' => b = t ∧ H' = H1) I1 r1 ⟨t, tru_post c r e1, rfl, rfl⟩) fun b s2 ⟨H2, I2, eb, eh⟩ => ?_
    subst eb eh
    cases b with
    | false => exact h2.run pins s2 σ H2 Q I2 ⟨Of, ρ1, S1, q⟩
    | true => exact ⟨x1, H2, I2, r1, q x1 H2 Kp.refl (SameOwn.refl _) S1 (ValR.of (ValR.fr S r))⟩
theorem r_one {op : BoolOp} {a : Expr} {f : Env → Out D} (h : DE X G pn W a f) : DE X G pn W (.BoolOp op [a] pos) f := pe_one h
theorem t_and1 {a : Expr} {f : Env → Out Bool} (h : DT X G pn W a f) : DTW X G pn W (.BoolOp .And [a] pos) f := pw_and1 h
theorem t_or1 {a : Expr} {f : Env → Out Bool} (h : DT X G pn W a f) : DTW X G pn W (.BoolOp .Or [a] pos) f := pw_or1 h
/-! ### comparisons as tests, chains -/
def isCmp : Pr → Bool
  | .eq | .ne | .lt | .le | .gt | .ge | .is | .isnot | .isin | .notin => true
  | _ => false
theorem cmp_bl {T : ClsT} {p : Pr} {ds : List D} {d : D} (h : isCmp p = true) (e : pr T p ds = some d) : ∃ b, d = .bl b := by
  have two : ∀ {g : D → D → Option D}, (∀ a b d, g a b = some d → ∃ k, d = .bl k) → p2 g ds = some d → ∃ k, d = .bl k := by
    intro g hg e
    unfold p2 at e
    split at e
    · exact hg _ _ _ e
    · cases e
  have mp : ∀ {o : Option Bool} {f : Bool → D} {d : D}, (∀ b, ∃ k, f b = .bl k) → o.map f = some d → ∃ k, d = .bl k := by
    intro o f d hf e
    cases o with
    | none => cases e
    | some b =>
      cases e
      exact hf b
  have ci : ∀ {q : Int → Int → Bool}, cmpI q ds = some d → ∃ k, d = .bl k := by
    intro q e
    unfold cmpI at e
    split at e
    · cases e
      exact ⟨_, rfl⟩
    · cases e
  have pin : ∀ {n : Bool} {a b d : D}, pIn n a b = some d → ∃ k, d = .bl k := by
    intro n a b d e
    unfold pIn at e
    split at e
    · split at e
      · cases e
        exact ⟨_, rfl⟩
      · cases e
    · split at e
      · cases e
        exact ⟨_, rfl⟩
      · cases e
    · cases e
  cases p <;> first | (cases h; done) | exact ci e | exact two (fun a b d e => mp (fun b => ⟨_, rfl⟩) e) e | exact two (fun a b d e => pin e) e
theorem t_cmp {p : Pr} {op : CmpOp} {a b : Expr} {x y : CA} (hT : C.T = G.T) (hp : isCmp p = true) (ho : OpR X (compareOp op) (rP2 G pn (pr G.T p))) (ha : DA X G pn W a (eva C x)) (hb : DA X G pn W b (eva C y)) (hm : behindInMarks op b = false) : DT X G pn W (.Compare a [op] [b] pos) (truM (ev C (.pr p (.cons x (.cons y .nil))))) := by
  refine PT.imp (pt_cmpR ho ha hb hm) fun σ H Q ⟨Of, ρ, S, hq⟩ => ?_
  unfold truM at hq
  have h1 : tG G pn W (ValR G pn) (ev C (.pr p (.cons x (.cons y .nil)))) σ H fun v H1 => ∃ k, v = .bl k ∧ Q k H1 := by
    refine ⟨Of, ρ, S, PostG.mono (PostG.bind (R1 := ValR G pn) back_bo hq) fun v H1 ⟨d, ρ1, ee, _, _, S1, r, q⟩ => ?_⟩
    have hd : ∃ b, d = .bl b := by
      rw [ev_pr hT] at ee
      unfold bd at ee
      cases e1 : evs C (.cons x (.cons y .nil)) ρ with
      | stuck => rw [e1] at ee; cases ee
      | exc _ _ => rw [e1] at ee; cases ee
      | ok as ρ2 =>
        rw [e1] at ee
        cases e2 : (ard ρ2 as).bind (pr G.T p) with
        | none => simp only [e2] at ee; cases ee
        | some d' =>
          simp only [e2] at ee
          have hd' : d' = d := by
            cases ee
            rfl
          subst hd'
          cases e3 : ard ρ2 as with
          | none => rw [e3] at e2; cases e2
          | some ds =>
            rw [e3] at e2
            exact cmp_bl hp e2
    obtain ⟨b, rfl⟩ := hd
    exact ⟨b, r.1 rfl, PostG.now (b := b) S1 (show BoR Of ρ1 σ H1 H1 b b from rfl) q⟩
  exact prim_two (by rw [ev_pr hT] at h1; exact h1)
theorem chain_red {p q : Pr} {a b c : Expr} {x y z : CE} {σ : L2.St} {H : Hp} {Q : VK} (hT : C.T = G.T) (hp : isCmp p = true) (hq : tG G pn W (ValR G pn) (ev C (.chain p q x y z)) σ H Q) :
    tChain (rP2 G pn (pr G.T p)) (rP2 G pn (pr G.T q)) (tG G pn W (ValR G pn) (ev C x)) (tG G pn W (ValR G pn) (ev C y)) (tG G pn W (ValR G pn) (ev C z)) σ H Q := by
  obtain ⟨Of, ρ, S, h⟩ := hq
  unfold ev at h
  refine ⟨Of, ρ, S, PostG.mono (PostG.bind (R1 := ValR G pn) back_val h) fun v1 H1 ⟨d1, ρ1, _, k1, s1, S1, r1, h1⟩ => ⟨Of, ρ1, S1, ?_⟩⟩
  have f1 := ValR.fr S r1
  refine PostG.mono (PostG.bind (R1 := ValR G pn) back_val h1) fun v2 H2 ⟨d2, ρ2, _, k2, s2, S2, r2, h2⟩ => ?_
  have f2 := ValR.fr S1 r2
  have f1' := RelD.step f1 k2 s2
  rw [hT] at h2
  cases e : pr G.T p [d1.fr, d2.fr] with
  | none => simp only [e] at h2; exact (show False from h2).elim
  | some d =>
    obtain ⟨b, rfl⟩ := cmp_bl hp e
    refine ⟨_, [d1.fr, d2.fr], _, S2.hO, .cons f1'.body (.cons f2.body .nil), e, fun v3 H3 e3 n3 => ?_⟩
    refine ⟨b, n3.1 rfl, ?_⟩
    have S3 := S2.grow e3
    have k3 : ∀ {L : Addr → Prop}, Kp L H2 H3 := Kp.same e3
    cases b with
    | false =>
      simp only [e] at h2
      exact PostG.now' S2 e3 (ValR.of (show RelD G pn _ H3 (.bl false) (.bl false) from rfl)) h2
    | true =>
      simp only [e] at h2
      refine ⟨Of, ρ2, S3, PostG.mono (PostG.bind (R1 := ValR G pn) back_val (PostG.shift back_val S3 k3 (SameOwn.refl _) h2)) fun v4 H4 ⟨d4, ρ4, _, k4, s4, S4, r4, h4⟩ => ?_⟩
      have f4 := ValR.fr S3 r4
      have f2' := RelD.step (RelD.step f2 k3 (SameOwn.refl _)) k4 s4
      cases e5 : pr G.T q [d2.fr, d4.fr] with
      | none => rw [e5] at h4; exact (show False from h4).elim
      | some d5 =>
        rw [e5] at h4
        exact ⟨_, [d2.fr, d4.fr], _, S4.hO, .cons f2'.body (.cons f4.body .nil), e5, fun v5 H5 x5 n5 => prim_post S4 h4 v5 H5 x5 n5⟩
theorem r_chain {p q : Pr} {op op' : CmpOp} {a b c : Expr} {x y z : CE} (hT : C.T = G.T) (hp : isCmp p = true) (ho : OpR X (compareOp op) (rP2 G pn (pr G.T p))) (ho' : OpR X (compareOp op') (rP2 G pn (pr G.T q))) (ha : DE X G pn W a (ev C x)) (hb : DE X G pn W b (ev C y)) (hc : DE X G pn W c (ev C z))
    (hm : lastMarks [op, op'] [b, c] = false) : DE X G pn W (.Compare a [op, op'] [b, c] pos) (ev C (.chain p q x y z)) :=
  PE.imp (pe_chain ho ho' ha hb hc hm) fun σ H Q h => chain_red (a := a) (b := b) (c := c) hT hp h
theorem t_chain {p q : Pr} {op op' : CmpOp} {a b c : Expr} {x y z : CE} (hT : C.T = G.T) (hp : isCmp p = true) (hq : isCmp q = true) (ho : OpR X (compareOp op) (rP2 G pn (pr G.T p))) (ho' : OpR X (compareOp op') (rP2 G pn (pr G.T q))) (ha : DE X G pn W a (ev C x)) (hb : DE X G pn W b (ev C y)) (hc : DE X G pn W c (ev C z))
    (hm : lastMarks [op, op'] [b, c] = false) : DT X G pn W (.Compare a [op, op'] [b, c] pos) (truM (ev C (.chain p q x y z))) := by
  refine PT.imp (pt_chain ho ho' ha hb hc hm) fun σ H Q ⟨Of, ρ, S, h⟩ => chain_red (a := a) (b := b) (c := c) hT hp ⟨Of, ρ, S, ?_⟩
  unfold truM at h
  refine PostG.mono (PostG.bind (R1 := ValR G pn) back_bo h) fun v H1 ⟨d, ρ1, ee, _, _, S1, r, h1⟩ => ?_
  have hd : ∃ b, d = .bl b := by
    unfold ev bd at ee
    cases e1 : ev C x ρ with
    | stuck => rw [e1] at ee; cases ee
    | exc _ _ => rw [e1] at ee; cases ee
    | ok d1 ρ2 =>
      rw [e1] at ee
      simp only [bd] at ee
      cases e2 : ev C y ρ2 with
      | stuck => rw [e2] at ee; cases ee
      | exc _ _ => rw [e2] at ee; cases ee
      | ok d2 ρ3 =>
        rw [e2] at ee
        simp only at ee
        split at ee
        · cases ee
          exact ⟨_, rfl⟩
        · cases e4 : ev C z ρ3 with
          | stuck => rw [e4] at ee; cases ee
          | exc _ _ => rw [e4] at ee; cases ee
          | ok d4 ρ4 =>
            rw [e4] at ee
            simp only at ee
            cases e5 : pr C.T q [d2.fr, d4.fr] with
            | none => rw [e5] at ee; cases ee
            | some d5 =>
              rw [e5] at ee
              cases ee
              exact cmp_bl hq e5
        · cases ee
  obtain ⟨b, rfl⟩ := hd
  exact ⟨b, r.1 rfl, PostG.now (b := b) S1 (show BoR Of ρ1 σ H1 H1 b b from rfl) h1⟩
end
end PI
/-! PI, part i: what a call does to the caller's frame. -/
namespace PI
open PySem PySem.Spec L2 PyProof.Rows
section
variable {G : Txt} {pn : List (Addr × Obj)} {W : WX} {Of A : Addr → Prop} {H H0 H' : Hp} {ρ ρ' : Env} {σ : L2.St} {as : List Ar} {vs : List V} {ds : List D} {outs : List (Option D)}

mutual
theorem flat_any {O2 O3 : Addr → Prop} (hO : ∀ b, O3 b → O2 b ∨ ∃ o, H b = some o ∧ (∀ xs, o ≠ .tup xs) ∧ ∀ fs, o ≠ .xd fs) : ∀ (d : D) (v : V), RelD G pn O2 H d v → d.flat = true → RelD G pn O3 H d v
  | .non, _, h, _ => h
  | .bl _, _, h, _ => h
  | .int _, _, h, _ => h
  | .str _, _, h, _ => h
  | .tup xs, _, ⟨a, vs, e, h1, h2⟩, f => ⟨a, vs, e, h1.imp_left fun h => ⟨fun q => (hO a q).elim h.1 fun ⟨o, e, n, _⟩ => by
      rw [h.2] at e
      cases e
      exact n _ rfl, h.2⟩, flats_any hO xs vs h2 (by simpa [D.flat] using f)⟩
  | .fn _, _, h, _ => h
  | .lst .., _, _, f => by simp [D.flat] at f
  | .dic .., _, _, f => by simp [D.flat] at f
  | .ins .., _, _, f => by simp [D.flat] at f
  | .exc .., _, _, f => by simp [D.flat] at f
  | .scr _, _, _, f => by simp [D.flat] at f
theorem flats_any {O2 O3 : Addr → Prop} (hO : ∀ b, O3 b → O2 b ∨ ∃ o, H b = some o ∧ (∀ xs, o ≠ .tup xs) ∧ ∀ fs, o ≠ .xd fs) : ∀ (ds : List D) (vs : List V), RelDs G pn O2 H ds vs → D.flats ds = true → RelDs G pn O3 H ds vs
  | [], _, h, _ => h
  | d :: ds, _, ⟨v, r, e, h1, h2⟩, f => by
    have f' : d.flat = true ∧ D.flats ds = true := by simpa [D.flats] using f
    exact ⟨v, r, e, flat_any hO d v h1 f'.1, flats_any hO ds r h2 f'.2⟩
end
theorem thin_body {O2 O3 : Addr → Prop} (hO : ∀ b, O3 b → O2 b ∨ ∃ o, H b = some o ∧ (∀ xs, o ≠ .tup xs) ∧ ∀ fs, o ≠ .xd fs) {d : D} {v : V} (h : BodyR G pn O2 H d v) (f : d.thin = true) : BodyR G pn O3 H d v := by
  cases d with
  | lst o xs =>
    cases o with
    | false => simp [D.thin, D.flat] at f
    | true =>
      obtain ⟨a, vs, e, h1, h2⟩ := h
      exact ⟨a, vs, e, h1, flats_any hO _ _ h2 f⟩
  | dic o ks xs =>
    cases o with
    | false => simp [D.thin, D.flat] at f
    | true =>
      obtain ⟨a, vs, e, h1, h2, h3⟩ := h
      have f' : D.flats ks = true ∧ D.flats xs = true := by simpa [D.thin] using f
      exact ⟨a, vs, e, h1, flats_any hO _ _ h2 f'.1, flats_any hO _ _ h3 f'.2⟩
  | ins o C xs =>
    cases o with
    | false => simp [D.thin, D.flat] at f
    | true =>
      obtain ⟨a, dx, c, vs, e, ht, h1, h2, h3⟩ := h
      exact ⟨a, dx, c, vs, e, ht, h1, h2, flats_any hO _ _ h3 f⟩
  | exc C xs =>
    obtain ⟨a, oe, dd, c, e, hp, ht, hz, h⟩ := h
    refine ⟨a, oe, dd, c, e, hp, ht, hz, ?_⟩
    rcases h with h | ⟨d, vs, fs, ed, h1, h2, h3, h4, h5⟩
    · exact .inl h
    · exact .inr ⟨d, vs, fs, ed, fun q => (hO d q).elim h1 fun ⟨o, e, _, n⟩ => by
        rw [h2] at e
        cases e
        exact n _ rfl, h2, h3, h4, flats_any hO _ _ h5 f⟩
  | _ => exact flat_any hO _ v h f
theorem thin_rel {O2 O3 : Addr → Prop} (hO : ∀ b, O3 b → O2 b ∨ ∃ o, H b = some o ∧ (∀ xs, o ≠ .tup xs) ∧ ∀ fs, o ≠ .xd fs) {d : D} {v : V} (h : RelD G pn O2 H d v) (f : d.thin = true) : RelD G pn O3 H d v := by
  have ho := h.notown
  have hb := thin_body hO h.body f
  cases d with
  | lst o xs =>
    cases o with
    | false => simp [D.thin, D.flat] at f
    | true => cases ho
  | dic o ks xs =>
    cases o with
    | false => simp [D.thin, D.flat] at f
    | true => cases ho
  | ins o C xs =>
    cases o with
    | false => simp [D.thin, D.flat] at f
    | true => cases ho
  | _ => exact hb
/-! ### lists by their places -/
theorem Paired.at {α β : Type} {R : α → β → Prop} : ∀ {xs : List α} {ys : List β} {j : Nat} {x : α}, Paired R xs ys → xs[j]? = some x → ∃ y, ys[j]? = some y ∧ R x y
  | _, _, _, _, .nil, e => by simp at e
  | _, _, 0, _, .cons r _, e => by
    simp at e
    subst e
    exact ⟨_, by simp, r⟩
  | _, _, j + 1, _, .cons _ t, e => by
    obtain ⟨y, h1, h2⟩ := Paired.at (j := j) t (by simpa using e)
    exact ⟨y, by simpa using h1, h2⟩
theorem arc_len : ∀ {as : List Ar} {ds : List D}, arc ρ as = some ds → ds.length = as.length
  | [], ds, e => by
    cases e
    rfl
  | .d x :: as, ds, e => by
    unfold arc at e
    cases q : arc ρ as with
    | none => rw [q] at e; cases e
    | some r =>
      rw [q] at e
      cases e
      simp [arc_len q]
  | .b i :: as, ds, e => by
    unfold arc at e
    split at e
    · cases q : arc ρ as with
      | none => rw [q] at e; cases e
      | some r =>
        rw [q] at e
        cases e
        simp [arc_len q]
    · cases e
  | .io i :: as, ds, e => by
    unfold arc at e
    split at e
    · split at e
      · cases q : arc ρ as with
        | none => rw [q] at e; cases e
        | some r =>
          rw [q] at e
          cases e
          simp [arc_len q]
      · cases e
    · cases e
/-- what argument j is -/
def ArgAt (ρ : Env) (a : Ar) (d : D) : Prop := match a with
  | .d x => d = x
  | .b i => ∃ d0, rdS ρ i = some d0 ∧ d = d0.fr
  | .io i => rdS ρ i = some d ∧ d.own = true
theorem arc_get : ∀ {as : List Ar} {ds : List D} {j : Nat} {a : Ar}, arc ρ as = some ds → as[j]? = some a → ∃ d, ds[j]? = some d ∧ ArgAt ρ a d
  | [], _, _, _, _, h => by simp at h
  | .d x :: as, ds, j, a, e, h => by
    unfold arc at e
    cases q : arc ρ as with
    | none => rw [q] at e; cases e
    | some r =>
      rw [q] at e
      cases e
      cases j with
      | zero =>
        simp at h
        subst h
        exact ⟨x, by simp, rfl⟩
      | succ j =>
        obtain ⟨d, h1, h2⟩ := arc_get q (by simpa using h)
        exact ⟨d, by simpa using h1, h2⟩
  | .b i :: as, ds, j, a, e, h => by
    unfold arc at e
    split at e
    · rename_i d0 e0
      cases q : arc ρ as with
      | none => rw [q] at e; cases e
      | some r =>
        rw [q] at e
        cases e
        cases j with
        | zero =>
          simp at h
          subst h
          exact ⟨d0.fr, by simp, d0, e0, rfl⟩
        | succ j =>
          obtain ⟨d, h1, h2⟩ := arc_get q (by simpa using h)
          exact ⟨d, by simpa using h1, h2⟩
    · cases e
  | .io i :: as, ds, j, a, e, h => by
    unfold arc at e
    split at e
    · rename_i d0 e0
      split at e
      · rename_i ho
        cases q : arc ρ as with
        | none => rw [q] at e; cases e
        | some r =>
          rw [q] at e
          cases e
          cases j with
          | zero =>
            simp at h
            subst h
            exact ⟨d0, by simp, e0, ho⟩
          | succ j =>
            obtain ⟨d, h1, h2⟩ := arc_get q (by simpa using h)
            exact ⟨d, by simpa using h1, h2⟩
      · cases e
    · cases e
theorem noIx_get {i : Nat} : ∀ {as : List Ar} {j : Nat}, noIx i as = true → as[j]? = some (.io i) ∨ as[j]? = some (.b i) → False
  | [], _, _, h => by simp at h
  | .d x :: as, j, e, h => by
    cases j with
    | zero => simp at h
    | succ j => exact noIx_get (as := as) (j := j) (by simpa [noIx] using e) (by simpa using h)
  | .b k :: as, j, e, h => by
    have e' : i ≠ k ∧ noIx i as = true := by simpa [noIx] using e
    cases j with
    | zero =>
      simp at h
      exact e'.1 h.symm
    | succ j => exact noIx_get (as := as) (j := j) e'.2 (by simpa using h)
  | .io k :: as, j, e, h => by
    have e' : i ≠ k ∧ noIx i as = true := by simpa [noIx] using e
    cases j with
    | zero =>
      simp at h
      exact e'.1 h.symm
    | succ j => exact noIx_get (as := as) (j := j) e'.2 (by simpa using h)
theorem noIo_get {i : Nat} : ∀ {as : List Ar} {j : Nat}, okIo.noIo i as = true → as[j]? = some (.io i) → False
  | [], _, _, h => by simp at h
  | .d x :: as, j, e, h => by
    cases j with
    | zero => simp at h
    | succ j => exact noIo_get (as := as) (j := j) (by simpa [okIo.noIo] using e) (by simpa using h)
  | .b k :: as, j, e, h => by
    cases j with
    | zero => simp at h
    | succ j => exact noIo_get (as := as) (j := j) (by simpa [okIo.noIo] using e) (by simpa using h)
  | .io k :: as, j, e, h => by
    have e' : i ≠ k ∧ okIo.noIo i as = true := by simpa [okIo.noIo] using e
    cases j with
    | zero =>
      simp at h
      exact e'.1 h.symm
    | succ j => exact noIo_get (as := as) (j := j) e'.2 (by simpa using h)
/-- handed over once, and not lent besides -/
theorem okIo_get {i : Nat} : ∀ {as : List Ar} {j k : Nat}, okIo as = true → as[j]? = some (.io i) → (as[k]? = some (.io i) → j = k) ∧ as[k]? ≠ some (.b i)
  | [], _, _, _, h => by simp at h
  | .d x :: as, j, k, e, h => by
    cases j with
    | zero => simp at h
    | succ j =>
      cases k with
      | zero => exact ⟨fun z => by simp at z, by simp⟩
      | succ k =>
        obtain ⟨h1, h2⟩ := okIo_get (as := as) (j := j) (k := k) (by simpa [okIo] using e) (by simpa using h)
        exact ⟨fun z => by rw [h1 (by simpa using z)], by simpa using h2⟩
  | .b x :: as, j, k, e, h => by
    have e' : okIo.noIo x as = true ∧ okIo as = true := by simpa [okIo] using e
    cases j with
    | zero => simp at h
    | succ j =>
      have h' : as[j]? = some (.io i) := by simpa using h
      cases k with
      | zero =>
        refine ⟨fun z => by simp at z, fun z => ?_⟩
        have z' : x = i := by simpa using z
        subst z'
        exact noIo_get e'.1 h'
      | succ k =>
        obtain ⟨h1, h2⟩ := okIo_get (as := as) (j := j) (k := k) e'.2 h'
        exact ⟨fun z => by rw [h1 (by simpa using z)], by simpa using h2⟩
  | .io x :: as, j, k, e, h => by
    have e' : noIx x as = true ∧ okIo as = true := by simpa [okIo] using e
    cases j with
    | zero =>
      have h' : x = i := by simpa using h
      subst h'
      cases k with
      | zero => exact ⟨fun _ => rfl, by simp⟩
      | succ k => exact ⟨fun z => (noIx_get e'.1 (.inl (by simpa using z))).elim, fun z => noIx_get e'.1 (.inr (by simpa using z))⟩
    | succ j =>
      have h' : as[j]? = some (.io i) := by simpa using h
      cases k with
      | zero =>
        refine ⟨fun z => ?_, by simp⟩
        have z' : x = i := by simpa using z
        subst z'
        exact (noIx_get e'.1 (.inl h')).elim
      | succ k =>
        obtain ⟨h1, h2⟩ := okIo_get (as := as) (j := j) (k := k) e'.2 h'
        exact ⟨fun z => by rw [h1 (by simpa using z)], by simpa using h2⟩
theorem putB_len : ∀ {ρ ρ' : Env} {as : List Ar} {outs : List (Option D)}, putB ρ as outs = some ρ' → ρ'.length = ρ.length
  | ρ, ρ', [], [], e => by
    cases e
    rfl
  | ρ, ρ', .d _ :: as, none :: os, e => putB_len (as := as) (outs := os) e
  | ρ, ρ', .b _ :: as, none :: os, e => putB_len (as := as) (outs := os) e
  | ρ, ρ', .io i :: as, some d :: os, e => by
    unfold putB at e
    split at e
    · have := putB_len e
      rw [List.length_set] at this
      exact this
    · cases e
theorem putB_out : ∀ {ρ ρ' : Env} {as : List Ar} {outs : List (Option D)} {i : Nat}, putB ρ as outs = some ρ' → (∀ j : Nat, as[j]? ≠ some (Ar.io i)) → ρ'[i]? = ρ[i]?
  | ρ, ρ', [], [], i, e, _ => by
    cases e
    rfl
  | ρ, ρ', .d _ :: as, none :: os, i, e, n => putB_out (as := as) (outs := os) e fun j z => n (j + 1) (by simpa using z)
  | ρ, ρ', .b _ :: as, none :: os, i, e, n => putB_out (as := as) (outs := os) e fun j z => n (j + 1) (by simpa using z)
  | ρ, ρ', .io k :: as, some d :: os, i, e, n => by
    unfold putB at e
    split at e
    · have h := putB_out (as := as) (outs := os) e fun j z => n (j + 1) (by simpa using z)
      have nk : k ≠ i := fun z => n 0 (by simp [z])
      rw [List.getElem?_set_ne nk] at h
      exact h
    · cases e
theorem putB_in : ∀ {ρ ρ' : Env} {as : List Ar} {outs : List (Option D)} {i j : Nat}, okIo as = true → putB ρ as outs = some ρ' → as[j]? = some (.io i) → i < ρ.length → ∃ d, outs[j]? = some (some d) ∧ d.own = true ∧ ρ'[i]? = some (some d)
  | ρ, ρ', [], _, _, _, _, _, h, _ => by simp at h
  | ρ, ρ', .d _ :: as, none :: os, i, j, ok, e, h, l => by
    cases j with
    | zero => simp at h
    | succ j =>
      obtain ⟨d, h1, h2⟩ := putB_in (as := as) (outs := os) (i := i) (j := j) (by simpa [okIo] using ok) e (by simpa using h) l
      exact ⟨d, by simpa using h1, h2⟩
  | ρ, ρ', .b x :: as, none :: os, i, j, ok, e, h, l => by
    have ok' : okIo.noIo x as = true ∧ okIo as = true := by simpa [okIo] using ok
    cases j with
    | zero => simp at h
    | succ j =>
      obtain ⟨d, h1, h2⟩ := putB_in (as := as) (outs := os) (i := i) (j := j) ok'.2 e (by simpa using h) l
      exact ⟨d, by simpa using h1, h2⟩
  | ρ, ρ', .io k :: as, some d :: os, i, j, ok, e, h, l => by
    have ok' : noIx k as = true ∧ okIo as = true := by simpa [okIo] using ok
    unfold putB at e
    split at e
    · rename_i ho
      cases j with
      | zero =>
        have h' : k = i := by simpa using h
        subst h'
        have q := putB_out (i := k) e fun j z => noIx_get ok'.1 (.inl z)
        rw [List.getElem?_set_self l] at q
        exact ⟨d, by simp, ho, q⟩
      | succ j =>
        obtain ⟨d', h1, h2⟩ := putB_in (as := as) (outs := os) (i := i) (j := j) ok'.2 e (by simpa using h) (by rw [List.length_set]; exact l)
        exact ⟨d', by simpa using h1, h2⟩
    · cases e
theorem putB_olen : ∀ {ρ ρ' : Env} {as : List Ar} {outs : List (Option D)}, putB ρ as outs = some ρ' → outs.length = as.length
  | ρ, ρ', [], [], e => rfl
  | ρ, ρ', .d _ :: as, none :: os, e => by simp [putB_olen (as := as) (outs := os) e]
  | ρ, ρ', .b _ :: as, none :: os, e => by simp [putB_olen (as := as) (outs := os) e]
  | ρ, ρ', .io i :: as, some d :: os, e => by
    unfold putB at e
    split at e
    · simp [putB_olen e]
    · cases e
theorem lentB_get : ∀ {as : List Ar} {i j : Nat}, as[j]? = some (.b i) → ownAt ρ i = true → lentB ρ as = true
  | [], _, _, h, _ => by simp at h
  | .d _ :: as, i, j, h, o => by
    cases j with
    | zero => simp at h
    | succ j => exact lentB_get (as := as) (j := j) (by simpa using h) o
  | .io _ :: as, i, j, h, o => by
    cases j with
    | zero => simp at h
    | succ j => exact lentB_get (as := as) (j := j) (by simpa using h) o
  | .b k :: as, i, j, h, o => by
    unfold lentB
    cases j with
    | zero =>
      have h' : k = i := by simpa using h
      subst h'
      rw [o]
      rfl
    | succ j => rw [lentB_get (as := as) (j := j) (by simpa using h) o, Bool.or_true]
theorem thinO_get : ∀ {outs : List (Option D)} {j : Nat} {d : D}, thinO outs = true → outs[j]? = some (some d) → d.thin = true
  | [], _, _, _, h => by simp at h
  | none :: os, j, d, e, h => by
    cases j with
    | zero => simp at h
    | succ j => exact thinO_get (outs := os) (j := j) e (by simpa using h)
  | some x :: os, j, d, e, h => by
    have e' : x.thin = true ∧ thinO os = true := by simpa [thinO] using e
    cases j with
    | zero =>
      have h' : x = d := by simpa using h
      subst h'
      exact e'.1
    | succ j => exact thinO_get (outs := os) (j := j) e'.2 (by simpa using h)
/-! ### the callee's frame at its entry -/
/-- what the callee is not to touch: what is of others, or ours, and is not lent or handed over -/
def Oc (Of : Addr → Prop) (ρ : Env) (σ : L2.St) (as : List Ar) (a : Addr) : Prop := Oo Of ρ σ a ∧ ¬ ∃ (j i : Nat), (as[j]? = some (.b i) ∨ as[j]? = some (.io i)) ∧ OwnA ρ σ i a
/-- the arguments as a frame -/
abbrev argE (ds : List D) : Env := ds.map some
abbrev argS (vs : List V) : L2.St := vs.map some
theorem argE_get {ds : List D} {i : Nat} {d : D} : rdS (argE ds) i = some d ↔ ds[i]? = some d := by
  rw [rdS_some, List.getElem?_map]
  cases ds[i]? <;> simp
theorem argS_get {vs : List V} {i : Nat} {v : V} : (argS vs)[i]? = some (some v) ↔ vs[i]? = some v := by
  rw [List.getElem?_map]
  cases vs[i]? <;> simp
/-- an argument of the callee's own is handed over -/
theorem own_io (hr : ArsR G pn Of ρ σ H0 H as vs) (hc : arc ρ as = some ds) {j : Nat} {a : Addr} (h : OwnA (argE ds) (argS vs) j a) : ∃ i, as[j]? = some (.io i) ∧ OwnA ρ σ i a := by
  obtain ⟨h1, h2⟩ := h
  obtain ⟨d, h3, h4⟩ := ownAt_true h1
  rw [argE_get] at h3
  rw [argS_get] at h2
  have hj : j < as.length := by
    rw [← arc_len hc]
    exact (List.getElem?_eq_some_iff.mp h3).1
  have ha : as[j]? = some as[j] := List.getElem?_eq_getElem hj
  obtain ⟨d', h5, h6⟩ := arc_get hc ha
  rw [h3] at h5
  cases h5
  obtain ⟨v, h7, h8⟩ := Paired.at hr ha
  rw [h2] at h7
  cases h7
  cases e : as[j] with
  | d x =>
    rw [e] at h6 h8
    have h6' : d = x := h6
    subst h6'
    have h8' : RelD G pn (Oo Of ρ σ) H d (.ref a) := h8
    rw [h8'.notown] at h4
    cases h4
  | b i =>
    rw [e] at h6
    obtain ⟨d0, _, h6'⟩ := h6
    rw [h6', D.fr_own] at h4
    cases h4
  | io i =>
    rw [e] at h6 h8 ha
    obtain ⟨h9, h10⟩ := h6
    exact ⟨i, ha, by rw [ownAt_some h9]; exact h10, h8⟩
theorem SR.enter (S : SR G pn Of H ρ σ) (hr : ArsR G pn Of ρ σ H0 H as vs) (hc : arc ρ as = some ds) (ok : okIo as = true) : SR G pn (Oc Of ρ σ as) H (argE ds) (argS vs) := by
  have hlen : as.length = vs.length := Paired.length hr
  have sub : ∀ b, Oo (Oc Of ρ σ as) (argE ds) (argS vs) b → Oo Of ρ σ b := fun b q => by
    rcases q with q | ⟨j, q⟩
    · exact q.1
    · obtain ⟨i, _, q⟩ := own_io hr hc q
      exact .inr ⟨i, q⟩
  refine ⟨?_, fun j d h => ?_, fun j k a h1 h2 => ?_, fun a q z => ?_, fun a q => S.oot q.1, S.tab⟩
  · rw [List.length_map, List.length_map, arc_len hc, hlen]
  · rw [argE_get] at h
    have hj : j < as.length := by
      rw [← arc_len hc]
      exact (List.getElem?_eq_some_iff.mp h).1
    have ha : as[j]? = some as[j] := List.getElem?_eq_getElem hj
    obtain ⟨d', h5, h6⟩ := arc_get hc ha
    rw [h] at h5
    cases h5
    obtain ⟨v, h7, h8⟩ := Paired.at hr ha
    refine ⟨v, argS_get.mpr h7, ?_⟩
    cases e : as[j] with
    | d x =>
      rw [e] at h6 h8
      have h6' : d = x := h6
      subst h6'
      have h9 : RelD G pn (Oo (Oc Of ρ σ as) (argE ds) (argS vs)) H d v := RelD.less (show RelD G pn (Oo Of ρ σ) H d v from h8) sub
      exact ⟨h9.body, fun _ => h9⟩
    | b i =>
      rw [e] at h6 h8 ha
      obtain ⟨d0, h9, h10⟩ := h6
      obtain ⟨w, k1, k2, k3⟩ := S.rel i d0 h9
      have h8' : σ[i]? = some (some v) := h8
      rw [k1] at h8'
      cases h8'
      have k4 : BodyR G pn (Oo (Oc Of ρ σ as) (argE ds) (argS vs)) H d0 v := k2.mono Kp.refl (fun b q => .inl (sub b q)) (fun _ _ _ _ z => z) k3
      have k5 : RelD G pn (Oo (Oc Of ρ σ as) (argE ds) (argS vs)) H d0.fr v := by
        refine k4.freeze (fun a ea ho => ?_) fun ho => RelD.less (k3 ho) sub
        subst ea
        have own : OwnA ρ σ i a := ⟨by rw [ownAt_some h9]; exact ho, k1⟩
        rintro (q | ⟨k, q⟩)
        · exact q.2 ⟨j, i, .inl ha, own⟩
        · obtain ⟨i', q1, q2⟩ := own_io hr hc q
          have := S.inj i' i a q2 own
          subst this
          exact (okIo_get ok q1).2 ha
      rw [h10]
      exact ⟨k5.body, fun _ => k5⟩
    | io i =>
      rw [e] at h6 h8
      obtain ⟨h9, h10⟩ := h6
      obtain ⟨w, k1, k2, k3⟩ := S.rel i d h9
      have h8' : σ[i]? = some (some v) := h8
      rw [k1] at h8'
      cases h8'
      exact ⟨k2.mono Kp.refl (fun b q => .inl (sub b q)) (fun _ _ _ _ z => z) k3, fun z => by rw [h10] at z; cases z⟩
  · obtain ⟨i1, q1, q2⟩ := own_io hr hc h1
    obtain ⟨i2, q3, q4⟩ := own_io hr hc h2
    have := S.inj i1 i2 a q2 q4
    subst this
    exact (okIo_get ok q1).1 q3
  · obtain ⟨j, q⟩ := q
    obtain ⟨i, q1, q2⟩ := own_io hr hc q
    exact z.2 ⟨j, i, .inr q1, q2⟩
/-! ### behind the call -/
/-- the arguments behind the call -/
def putA (ds : List D) (outs : List (Option D)) : Env := List.zipWith (fun d o => some (Option.getD o d)) ds outs
theorem putA_get {ds : List D} {outs : List (Option D)} {j : Nat} {d x : D} (h1 : ds[j]? = some x) (h2 : outs[j]? = some (some d)) : rdS (putA ds outs) j = some d := by
  rw [rdS_some]
  unfold putA
  rw [List.getElem?_zipWith, h1, h2]
  rfl
/-- who of ours owns what, and what of the callee's is ours -/
structure Back (G : Txt) (pn : List (Addr × Obj)) (Of A : Addr → Prop) (H H' : Hp) (ρ ρ' : Env) (σ : L2.St) (as : List Ar) (vs : List V) (ds : List D) (outs : List (Option D)) : Prop where
  S : SR G pn Of H ρ σ
  ok : okIo as = true
  ars : ∃ H0, ArsR G pn Of ρ σ H0 H as vs
  arc : arc ρ as = some ds
  put : putB ρ as outs = some ρ'
  kp : Kp (Lo (argE ds) (argS vs)) H H'
  so : SameOwn (argE ds) (putA ds outs)
  S' : SR G pn (fun b => Oc Of ρ σ as b ∨ A b) H' (putA ds outs) (argS vs)
  new : ∀ a, A a → H a = none
theorem Back.subLo (B : Back G pn Of A H H' ρ ρ' σ as vs ds outs) {a : Addr} (h : Lo (argE ds) (argS vs) a) : ∃ (j i : Nat), as[j]? = some (Ar.io i) ∧ OwnA ρ σ i a := by
  obtain ⟨H0, hr⟩ := B.ars
  obtain ⟨j, h⟩ := h
  obtain ⟨i, h1, h2⟩ := own_io hr B.arc h
  exact ⟨j, i, h1, h2⟩
theorem Back.same (B : Back G pn Of A H H' ρ ρ' σ as vs ds outs) : SameOwn ρ ρ' := fun i => by
  by_cases h : ∃ j : Nat, as[j]? = some (Ar.io i)
  · obtain ⟨j, h⟩ := h
    obtain ⟨d, h1, h2, h3⟩ := arc_get B.arc h
    have hl : i < ρ.length := by
      rw [rdS_some] at h2
      exact (List.getElem?_eq_some_iff.mp h2).1
    obtain ⟨d', k1, k2, k3⟩ := putB_in B.ok B.put h hl
    rw [ownAt_some h2, ownAt_some (rdS_some.mpr k3), h3, k2]
  · have := putB_out B.put fun j z => h ⟨j, z⟩
    unfold ownAt rdS
    rw [this]
theorem Back.keep (B : Back G pn Of A H H' ρ ρ' σ as vs ds outs) : Kp (Lo ρ σ) H H' := B.kp.mono fun b q => by
  obtain ⟨j, i, _, h⟩ := B.subLo q
  exact ⟨i, h⟩
/-- what the callee holds back is what we do, but for what was lent -/
theorem Back.out (B : Back G pn Of A H H' ρ ρ' σ as vs ds outs) {b : Addr} (h : Oo (fun b => Of b ∨ A b) ρ' σ b) : Oo (fun b => Oc Of ρ σ as b ∨ A b) (putA ds outs) (argS vs) b ∨ (lentB ρ as = true ∧ ∃ o, H' b = some o ∧ (∀ xs, o ≠ .tup xs) ∧ ∀ fs, o ≠ .xd fs) := by
  have h' : Oo Of ρ σ b ∨ A b := by
    rcases h with (h | h) | h
    · exact .inl (.inl h)
    · exact .inr h
    · rw [B.same.lo] at h
      exact .inl (.inr h)
  rcases h' with h' | h'
  · by_cases q : ∃ (j i : Nat), (as[j]? = some (.b i) ∨ as[j]? = some (.io i)) ∧ OwnA ρ σ i b
    · obtain ⟨j, i, q1, q2⟩ := q
      by_cases z : Lo (argE ds) (argS vs) b
      · rw [← B.so.lo] at z
        exact .inl (.inr z)
      · rcases q1 with q1 | q1
        · refine .inr ⟨lentB_get q1 q2.1, ?_⟩
          obtain ⟨i', d, e1, e2, e3, e4⟩ := B.S.own ⟨i, q2⟩
          obtain ⟨o, e5, e6, e7⟩ := e4.there e2
          refine ⟨o, B.kp.keep b o e5 z e6, ?_, ?_⟩
          · intro xs e
            subst e
            exact e7
          · intro xs e
            subst e
            exact e7
        · refine absurd ?_ z
          obtain ⟨H0, hr⟩ := B.ars
          obtain ⟨d, h1, h2, h3⟩ := arc_get B.arc q1
          obtain ⟨v, h4, h5⟩ := Paired.at hr q1
          have h5' : σ[i]? = some (some v) := h5
          rw [q2.2] at h5'
          cases h5'
          exact ⟨j, by rw [ownAt_some (argE_get.mpr h1)]; exact h3, argS_get.mpr h4⟩
    · exact .inl (.inl (.inl ⟨h', q⟩))
  · exact .inl (.inl (.inr h'))
theorem Back.body (B : Back G pn Of A H H' ρ ρ' σ as vs ds outs) {d : D} {v : V} (h : BodyR G pn (Oo (fun b => Oc Of ρ σ as b ∨ A b) (putA ds outs) (argS vs)) H' d v) (hf : d.own = false → RelD G pn (Oo (fun b => Oc Of ρ σ as b ∨ A b) (putA ds outs) (argS vs)) H' d v) (ht : lentB ρ as = true → d.thin = true) :
    BodyR G pn (Oo (fun b => Of b ∨ A b) ρ' σ) H' d v := by
  by_cases l : lentB ρ as = true
  · exact thin_body (fun b q => (B.out q).imp_right fun z => z.2) h (ht l)
  · exact h.mono Kp.refl (fun b q => (B.out q).elim .inl fun z => absurd z.1 l) (fun _ _ _ _ z => z) hf
theorem Back.rel (B : Back G pn Of A H H' ρ ρ' σ as vs ds outs) {d : D} {v : V} (h : RelD G pn (Oo (fun b => Oc Of ρ σ as b ∨ A b) (putA ds outs) (argS vs)) H' d v) (ht : lentB ρ as = true → d.thin = true) :
    RelD G pn (Oo (fun b => Of b ∨ A b) ρ' σ) H' d v := by
  by_cases l : lentB ρ as = true
  · exact thin_rel (fun b q => (B.out q).imp_right fun z => z.2) h (ht l)
  · exact RelD.mono Kp.refl (fun b q => (B.out q).elim .inl fun z => absurd z.1 l) _ _ h
theorem Back.sr (B : Back G pn Of A H H' ρ ρ' σ as vs ds outs) (ht : lentB ρ as = true → thinO outs = true) : SR G pn (fun b => Of b ∨ A b) H' ρ' σ := by
  have el : Lo ρ' σ = Lo ρ σ := B.same.lo
  have oa : ∀ i a, OwnA ρ' σ i a → OwnA ρ σ i a := fun i a h => ⟨by rw [← B.same i]; exact h.1, h.2⟩
  refine ⟨(putB_len B.put).trans B.S.len, fun i d h => ?_, fun i j a h1 h2 => B.S.inj i j a (oa i a h1) (oa j a h2), fun a q z => ?_, fun a q => ?_, B.S'.tab⟩
  · by_cases hj : ∃ j : Nat, as[j]? = some (Ar.io i)
    · obtain ⟨j, hj⟩ := hj
      obtain ⟨x, h1, h2, h3⟩ := arc_get B.arc hj
      have hl : i < ρ.length := by
        rw [rdS_some] at h2
        exact (List.getElem?_eq_some_iff.mp h2).1
      obtain ⟨d', k1, k2, k3⟩ := putB_in B.ok B.put hj hl
      rw [rdS_some, k3] at h
      cases h
      obtain ⟨H0, hr⟩ := B.ars
      obtain ⟨v, h4, h5⟩ := Paired.at hr hj
      obtain ⟨v', m1, m2, m3⟩ := B.S'.rel j d (putA_get h1 k1)
      rw [argS_get, h4] at m1
      cases m1
      exact ⟨v, h5, B.body m2 m3 fun l => thinO_get (ht l) k1, fun z => by rw [k2] at z; cases z⟩
    · have e := putB_out B.put fun j z => hj ⟨j, z⟩
      have h' : rdS ρ i = some d := by
        rw [rdS_some] at h ⊢
        rw [← e]
        exact h
      obtain ⟨v, k1, k2, k3⟩ := B.S.rel i d h'
      have n : ∀ b, Oo (fun b => Of b ∨ A b) ρ' σ b → Oo Of ρ σ b ∨ H b = none := fun b q => by
        rcases q with (q | q) | q
        · exact .inl (.inl q)
        · exact .inr (B.new b q)
        · rw [el] at q
          exact .inl (.inr q)
      have kk : Kp (Oo Of ρ σ) H H' := B.keep.mono fun b q => .inr q
      refine ⟨v, k1, k2.mono kk n (fun a o ea ho e1 => ?_) k3, fun z => RelD.mono kk n d v (k3 z)⟩
      subst ea
      obtain ⟨o', e2, e3, _⟩ := k2.there ho
      rw [e2] at e1
      cases e1
      refine B.kp.keep a o e2 (fun q => ?_) e3
      obtain ⟨j, i', q1, q2⟩ := B.subLo q
      have := B.S.inj i' i a q2 ⟨by rw [ownAt_some h']; exact ho, k1⟩
      subst this
      exact hj ⟨j, q1⟩
  · rw [el] at q
    rcases z with z | z
    · exact B.S.dis a q z
    · obtain ⟨o, e, _⟩ := B.S.lot q
      rw [B.new a z] at e
      cases e
  · rcases q with q | q
    · obtain ⟨o, e, t⟩ := B.S.oft a q
      refine ⟨o, B.kp.keep a o e (fun z => ?_) t, t⟩
      obtain ⟨j, i, _, z⟩ := B.subLo z
      exact B.S.dis a ⟨i, z⟩ q
    · exact B.S'.oft a (.inr q)
end
end PI
/-! PI, part j: what a def promises; calls as expressions. -/
namespace PI
open PySem PySem.Spec L2 PyProof.Rows
/-- what a call comes to, told at the arguments' frame -/
def outF (ds : List D) : FOut → Out D
  | .ok v outs => if outs.length = ds.length then .ok v (putA ds outs) else .stuck
  | .exc e outs => if outs.length = ds.length then .exc e (putA ds outs) else .stuck
  | .stuck => .stuck
def SpI (G : Txt) (pn : List (Addr × Obj)) (F : List D → FOut) : Sp := fun vs H Q E =>
  ∃ O ds, SR G pn O H (argE ds) (argS vs) ∧ PostG G pn (fun c d _ H' => E c d H') (ValR G pn) O H (argE ds) (argS vs) (outF ds (F ds)) Q
/-- the exception that is handled: it stands, out of reach -/
def PinF (p : Addr × Obj) : Prop := ∃ vs : Array Value, p.2.data = .fields vs
structure FnI (P : Program) (w : World) (K : PySem.W.Frag) (mg : Str → Option Value) (base : Heap) (G : Txt) (hot : Bool) (k : Nat) (f : Addr) (fd : FuncData) (ps : List Str) (F : List D → FOut) : Prop where
  len : ∀ ds, F ds ≠ .stuck → ds.length = ps.length
  run : ∀ (A : Around) (outer : List PySem.Env) (s : Shared) (H : Hp) (args : Args) (us : List Value) (vs : List V) (Q : VK) (E : XK), Room k A → A.guards = some [] → Env0 P w K mg base A outer s H → BindsTo s fd args (ps.zip us) → Vals vs us → SpI G [] F vs H Q E →
    codeAny (model P w) A (.call (.ref f) args) (CR (CX P w) outer P w H s Q E) s
  runH : hot = true → ∀ (A : Around) (outer : List PySem.Env) (s : Shared) (H : Hp) (args : Args) (us : List Value) (vs : List V) (Q : VK) (E : XK) (p : Addr × Obj), L2H.RoomH k A → A.guards = some [] → PinF p → L2H.PinOk outer H s p → Env0 P w K mg base A outer s H → BindsTo s fd args (ps.zip us) → Vals vs us → SpI G [p] F vs H Q E →
    codeAny (model P w) A (.call (.ref f) args) (CR (CX P w) outer P w H s Q E) s
/-- how the context runs: nothing is handled, or the exception p is -/
inductive Mode (X : Cx) (k : Nat) : Bool → List (Addr × Obj) → Prop where
  | calm (c : X.calm = true) (r : Room k X.A) : Mode X k true []
  | hot (p : Addr × Obj) (r : L2H.RoomH k X.A) (f : PinF p) (m : p ∈ X.pn) : Mode X k false [p]
section
variable {X : Cx} {G : Txt} {pn : List (Addr × Obj)} {W : WX} {C : Ctx} {pos : Pos}
theorem ExcR.same {Of A : Addr → Prop} {H H' : Hp} {ρ ρ' : Env} {σ : L2.St} {as : List Ar} {vs : List V} {ds : List D} {outs : List (Option D)} {e : D} {cls : Value} {dd : Option Addr} (B : Back G pn Of A H H' ρ ρ' σ as vs ds outs)
    (h : ExcR G pn (Oo (fun b => Oc Of ρ σ as b ∨ A b) (putA ds outs) (argS vs)) H' e cls dd) (ht : lentB ρ as = true → e.thin = true) : ExcR G pn (Oo (fun b => Of b ∨ A b) ρ' σ) H' e cls dd := by
  obtain ⟨C, ds', c, rfl, hc, ec, h⟩ := h
  refine ⟨C, ds', c, rfl, hc, ec, ?_⟩
  rcases h with h | ⟨d, vs', fs, ed, h1, h2, h3, h4, h5⟩
  · exact .inl h
  · refine .inr ⟨d, vs', fs, ed, fun q => ?_, h2, h3, h4, ?_⟩
    · rcases B.out q with z | ⟨_, o, z1, _, z2⟩
      · exact h1 z
      · rw [h2] at z1
        cases z1
        exact z2 _ rfl
    · by_cases l : lentB ρ as = true
      · exact flats_any (fun b q => (B.out q).imp_right fun z => z.2) _ _ h5 (ht l)
      · exact RelDs.mono Kp.refl (fun b q => (B.out q).elim .inl fun z => absurd z.1 l) _ _ h5
/-- a call, from the caller's frame to the arguments' -/
theorem call_end {F : List D → FOut} {Of : Addr → Prop} {H H0 : Hp} {ρ : Env} {σ : L2.St} {as : List Ar} {vs : List V} {Q : VK} (S : SR G pn Of H ρ σ) (hr : ArsR G pn Of ρ σ H0 H as vs)
    (h : PostG G pn W (ValR G pn) Of H ρ σ (match arc ρ as with | some ds => callR as ρ (F ds) | none => .stuck) Q) : SpI G pn F vs H Q fun c d H' => W c d σ H' := by
  cases ea : arc ρ as with
  | none => simp only [ea] at h; exact (show False from h).elim
  | some ds =>
    simp only [ea] at h
    cases ef : F ds with
    | stuck => rw [ef] at h; exact (show False from h).elim
    | ok v outs =>
      rw [ef] at h
      unfold callR at h
      simp only at h
      split at h
      · rename_i ck
        rw [Bool.and_eq_true] at ck
        have lt : lentB ρ as = true → v.thin = true ∧ thinO outs = true := fun l => by
          have := ck.2
          rw [l] at this
          simpa using this
        cases ep : putB ρ as outs with
        | none => simp only [ep] at h; exact (show False from h).elim
        | some ρ' =>
          simp only [ep] at h
          refine ⟨Oc Of ρ σ as, ds, S.enter hr ea ck.1, ?_⟩
          have hl : outs.length = ds.length := by rw [putB_olen ep, arc_len ea]
          rw [ef, show outF ds (.ok v outs) = .ok v (putA ds outs) from if_pos hl]
          intro w H' kp so S' r
          cases ho : v.own with
          | false =>
            have B : Back G pn Of (fun _ => False) H H' ρ ρ' σ as vs ds outs := ⟨S, ck.1, ⟨H0, hr⟩, ea, ep, kp, so, S'.less (fun a q => q.elim id False.elim), fun _ z => z.elim⟩
            refine h w H' B.keep B.same ((B.sr fun l => (lt l).2).less fun a q => .inl q) (ValR.of ?_)
            have r1 := RelD.less (r.1 ho) (O' := Oo (fun b => Oc Of ρ σ as b ∨ False) (putA ds outs) (argS vs)) fun b q => q.elim (fun z => .inl (z.elim id False.elim)) .inr
            exact RelD.less (B.rel r1 fun l => (lt l).1) fun b q => q.elim (fun z => .inl (.inl z)) .inr
          | true =>
            obtain ⟨a, ev, n, S2, b⟩ := r.2 ho
            have B : Back G pn Of (fun b => b = a) H H' ρ ρ' σ as vs ds outs := ⟨S, ck.1, ⟨H0, hr⟩, ea, ep, kp, so, S2, fun b z => by rw [z]; exact n⟩
            have S3 := B.sr fun l => (lt l).2
            exact h w H' B.keep B.same (S3.less fun a q => .inl q) ⟨(fun z => by rw [ho] at z; cases z), fun _ => ⟨a, ev, n, S3, B.body b (fun z => by rw [ho] at z; cases z) fun l => (lt l).1⟩⟩
      · exact (show False from h).elim
    | exc e outs =>
      rw [ef] at h
      unfold callR at h
      simp only at h
      split at h
      · rename_i ck
        rw [Bool.and_eq_true] at ck
        have lt : lentB ρ as = true → e.thin = true ∧ thinO outs = true := fun l => by
          have := ck.2
          rw [l] at this
          simpa using this
        cases ep : putB ρ as outs with
        | none => simp only [ep] at h; exact (show False from h).elim
        | some ρ' =>
          simp only [ep] at h
          refine ⟨Oc Of ρ σ as, ds, S.enter hr ea ck.1, ?_⟩
          have hl : outs.length = ds.length := by rw [putB_olen ep, arc_len ea]
          rw [ef, show outF ds (.exc e outs) = .exc e (putA ds outs) from if_pos hl]
          intro H' cls dd kp so S' r
          have B : Back G pn Of (fun _ => False) H H' ρ ρ' σ as vs ds outs := ⟨S, ck.1, ⟨H0, hr⟩, ea, ep, kp, so, S'.less (fun a q => q.elim id False.elim), fun _ z => z.elim⟩
          refine h H' cls dd B.keep B.same ((B.sr fun l => (lt l).2).less fun a q => .inl q) ?_
          have r1 : ExcR G pn (Oo (fun b => Oc Of ρ σ as b ∨ False) (putA ds outs) (argS vs)) H' e cls dd := by
            obtain ⟨C, ds', c, e1, hc, ec, r⟩ := r
            refine ⟨C, ds', c, e1, hc, ec, r.imp id fun ⟨d, vs', fs, ed, h1, h2, h3, h4, h5⟩ => ⟨d, vs', fs, ed, fun q => h1 (q.elim (fun z => .inl (z.elim id False.elim)) .inr), h2, h3, h4, RelDs.less h5 fun b q => q.elim (fun z => .inl (z.elim id False.elim)) .inr⟩⟩
          have r2 := ExcR.same B r1 fun l => (lt l).1
          obtain ⟨C, ds', c, e1, hc, ec, r⟩ := r2
          exact ⟨C, ds', c, e1, hc, ec, r.imp id fun ⟨d, vs', fs, ed, h1, h2, h3, h4, h5⟩ => ⟨d, vs', fs, ed, fun q => h1 (q.elim (fun z => .inl (.inl z)) .inr), h2, h3, h4, RelDs.less h5 fun b q => q.elim (fun z => .inl (.inl z)) .inr⟩⟩
      · exact (show False from h).elim
theorem call_red {F : List D → FOut} {cs : CEs} {σ : L2.St} {H : Hp} {Q : VK} (h : tG G pn W (ValR G pn) (bd (evs C cs) fun as ρ => match arc ρ as with | some ds => callR as ρ (F ds) | none => .stuck) σ H Q) :
    tG G pn W (ArsR G pn) (evs C cs) σ H fun vs H1 => SpI G pn F vs H1 Q fun c d H' => W c d σ H' := by
  obtain ⟨Of, ρ, S, hp⟩ := h
  exact ⟨Of, ρ, S, PostG.mono (PostG.bind (R1 := ArsR G pn) back_val hp) fun vs H1 ⟨as, ρ1, _, _, _, S1, r, q⟩ => call_end S1 r q⟩
/-- a value that may be called: the object at a, which computes F -/
def CallI (X : Cx) (G : Txt) (pn : List (Addr × Obj)) (W : WX) (a : Addr) (F : List D → FOut) : Prop :=
  ∀ (pins : List (Addr × Obj)) (s : Shared) (σ : L2.St) (H : Hp) (Q : VK) (us : List Value) (vs : List V), L2.Inv X pins σ H s → Vals vs us → SpI G pn F vs H Q (fun c d H' => W c d σ H') → wpAny (model X.prog X.w) X.A (call (.ref a) us) (EP X pins σ Q) X.xe s
theorem SpI.len {F : List D → FOut} {n : Nat} {vs : List V} {H : Hp} {Q : VK} {E : XK} (hF : ∀ ds, F ds ≠ .stuck → ds.length = n) (h : SpI G pn F vs H Q E) : vs.length = n := by
  obtain ⟨O, ds, S, hp⟩ := h
  have e := S.len
  rw [List.length_map, List.length_map] at e
  rw [← e]
  refine hF ds fun z => ?_
  rw [z] at hp
  exact hp
/-- what a callee ends with reaches us -/
theorem callee_end {pins : List (Addr × Obj)} {s s' : Shared} {σ : L2.St} {H : Hp} {Q : VK} {r : Result} (tk : Takes X W) (I : L2.Inv X pins σ H s) (hq : CR (L2.CX X.prog X.w) X.stack X.prog X.w H s Q (fun c d H' => W c d σ H') r s') :
    match r with | .ok (.ret u) => EP X pins σ Q u s' | .ok _ => False | .error e => X.xe e s' := by
  cases r with
  | error e => exact tk e s' (XE.of_call I (fun _ _ _ h => h) hq)
  | ok fl =>
    cases fl with
    | ret u => exact I.after hq
    | next => exact hq
    | brk => exact hq
    | cont => exact hq
theorem CallI.of {hot calm : Bool} {k : Nat} {a : Addr} {fd : FuncData} {ps : List Str} {F : List D → FOut} (hgd : X.A.guards = some []) (md : Mode X k calm pn) (tk : Takes X W) (hh : calm = false → hot = true) (hb : Binds X.K fd ps []) (Fi : FnI X.prog X.w X.K X.mg X.base G hot k a fd ps F) : CallI X G pn W a F := by
  intro pins s σ H Q us vs I r h
  have hl : us.length = ps.length := by rw [← r.length]; exact SpI.len Fi.len h
  have b := hb s us I.kIn (by rw [List.append_nil]; exact hl)
  rw [List.append_nil] at b
  cases md with
  | calm c rm =>
    refine wpAny_call (codeAny_mono (Fi.run X.A X.stack s H ⟨us, []⟩ us vs Q _ rm hgd I.env0 b r h) fun r s' hq => ?_)
    have z := callee_end tk I hq
    cases r with
    | error e => exact z
    | ok fl => cases fl <;> exact z
  | hot p rm pf hp =>
    have P1 := I.pin p (List.mem_append_left _ hp)
    have hpin : L2H.PinOk X.stack H s p := ⟨P1.1, P1.2.1, fun hm => (List.mem_cons.mp (I.stkSub p.1 hm)).elim P1.2.2.1 P1.2.2.2.1, P1.2.2.2.2⟩
    refine wpAny_call (codeAny_mono (Fi.runH (hh rfl) X.A X.stack s H ⟨us, []⟩ us vs Q _ p rm hgd pf hpin I.env0 b r h) fun r s' hq => ?_)
    have z := callee_end tk I hq
    cases r with
    | error e => exact z
    | ok fl => cases fl <;> exact z
/-- f(e, ..) -/
theorem r_call {f : Nat} {a : Addr} {x : Str} {e : Expr} {es : List Expr} {cs : CEs} {q : Pos} (hc : CallI X G pn W a (C.F f)) (hg : Gl X x) (hm : X.mg x = some (.ref a)) (hk : PySem.W.keepIn X.K (.ref a) = true) (ha : DAs X G pn W (e :: es) (evs C cs))
    (hdb : (x == ("__debug__" : Str)) = false) (he : starEach (e :: es) X.env = (false, eval e X.env) :: starEach es X.env) (hpl : (backTo pos (starEach es X.env)).any (·.1) = false) : DE X G pn W (.Call (.Name x q) (e :: es) [] pos) (ev C (.call f cs)) := by
  refine ⟨fun pins s σ H Q I h => ?_⟩
  have h1 := call_red (F := C.F f) (cs := cs) (C := C) (by unfold ev at h; exact h)
  refine wpAny_Call_Name_kw (ld_glob I hg hm ?_ hdb)
  exact PySem.W.callWith_K (h₀ := X.base) I.ok.mod.kin hk (thn (ha.run pos pins s σ H _ I h1) fun us s1 ⟨vs, H1, I1, r, q⟩ => ⟨I1.kIn, hc pins s1 σ H1 Q us vs I1 r q⟩) he hpl
theorem r_call0 {f : Nat} {a : Addr} {x : Str} {q : Pos} (hc : CallI X G pn W a (C.F f)) (hg : Gl X x) (hm : X.mg x = some (.ref a)) (hk : PySem.W.keepIn X.K (.ref a) = true) (hdb : (x == ("__debug__" : Str)) = false) : DE X G pn W (.Call (.Name x q) [] [] pos) (ev C (.call f .nil)) := by
  refine ⟨fun pins s σ H Q I h => ?_⟩
  have h1 := call_red (F := C.F f) (cs := .nil) (C := C) (by unfold ev at h; exact h)
  obtain ⟨Of, ρ, S, hp⟩ := h1
  have h2 : SpI G pn (C.F f) [] H Q fun c d H' => W c d σ H' := by
    have hp' : PostG G pn W (ArsR G pn) Of H ρ σ (.ok [] ρ) fun vs H1 => SpI G pn (C.F f) vs H1 Q fun c d H' => W c d σ H' := by
      unfold evs at hp
      exact hp
    exact PostG.now (b := []) S (show ArsR G pn Of ρ σ H H [] [] from .nil) hp'
  refine wpAny_Call_Name_kw (ld_glob I hg hm ?_ hdb)
  exact PySem.W.callWith_K0 I.kIn hk (hc pins s σ H Q [] [] I .nil h2)
end
end PI
/-! PI, part k: statements that hold no statements. -/
namespace PI
open PySem PySem.Spec L2 PyProof.Rows
/-- a def's entry: what it may change, the heap, the slots that keep what they hold, others' things -/
structure Ent where
  L0 : Addr → Prop
  H0 : Hp
  fix : List Nat
  σ0 : L2.St
  Of : Addr → Prop
structure StOk (G : Txt) (pn : List (Addr × Obj)) (N : Ent) (H : Hp) (ρ : Env) (σ : L2.St) : Prop where
  S : SR G pn N.Of H ρ σ
  kp : Kp N.L0 N.H0 H
  lo : ∀ a, Lo ρ σ a → N.L0 a ∨ N.H0 a = none
  fx : ∀ i ∈ N.fix, σ[i]? = N.σ0[i]?
  th : ∀ a, N.L0 a → H a ≠ none
  ol : ∀ a, N.L0 a → ¬ N.Of a
  oh : ∀ a, N.Of a → N.H0 a ≠ none
/-- a value in hand -/
def RtR (G : Txt) (pn : List (Addr × Obj)) (N : Ent) (ρ : Env) (σ : L2.St) (H : Hp) (d : D) (v : V) : Prop :=
  (d.own = false → RelD G pn (Oo N.Of ρ σ) H d v) ∧ (d.own = true → ∃ a, v = .ref a ∧ (N.L0 a ∨ N.H0 a = none) ∧ SR G pn (fun b => N.Of b ∨ b = a) H ρ σ ∧ BodyR G pn (Oo (fun b => N.Of b ∨ b = a) ρ σ) H d v)
def PostS (G : Txt) (pn : List (Addr × Obj)) (W : WX) (N : Ent) (o : Out Fl) (D : Ends) : Prop := match o with
  | .ok f ρ' => match f with
    | .nx => ∀ σ' H', StOk G pn N H' ρ' σ' → D.nx σ' H'
    | .bk => ∀ σ' H', StOk G pn N H' ρ' σ' → D.bk σ' H'
    | .ct => ∀ σ' H', StOk G pn N H' ρ' σ' → D.ct σ' H'
    | .rt d => ∀ v σ' H', StOk G pn N H' ρ' σ' → RtR G pn N ρ' σ' H' d v → D.rt v H'
  | .exc e ρ' => ∀ σ' H' cls dd, StOk G pn N H' ρ' σ' → ExcR G pn (Oo N.Of ρ' σ') H' e cls dd → W cls dd σ' H'
  | .stuck => False
def tS (G : Txt) (pn : List (Addr × Obj)) (W : WX) (N : Ent) (f : Env → Out Fl) : TS := fun D σ H => ∃ ρ, StOk G pn N H ρ σ ∧ PostS G pn W N (f ρ) D
def DS (X : Cx) (G : Txt) (pn : List (Addr × Obj)) (W : WX) (N : Ent) (st : Stmt) (f : Env → Out Fl) : Prop := PS X st (tS G pn W N f)
def DSs (X : Cx) (G : Txt) (pn : List (Addr × Obj)) (W : WX) (N : Ent) (st : List Stmt) (f : Env → Out Fl) : Prop := PSs X st (tS G pn W N f)
theorem _root_.List.set_getElem?_self' {α : Type} {xs : List α} {i : Nat} {x : α} (h : xs[i]? = some x) : xs.set i x = xs := by
  apply List.ext_getElem?
  intro j
  by_cases e : j = i
  · subst e
    rw [List.getElem?_set_self (List.getElem?_eq_some_iff.mp h).1, h]
  · rw [List.getElem?_set_ne (Ne.symm e)]
section
variable {X : Cx} {G : Txt} {pn : List (Addr × Obj)} {W : WX} {C : Ctx} {pos : Pos} {N : Ent} {H H1 H' : Hp} {ρ ρ1 ρ' : Env} {σ σ' : L2.St}
theorem StOk.step (s : StOk G pn N H ρ σ) (k : Kp (Lo ρ σ) H H1) (so : SameOwn ρ ρ1) (S1 : SR G pn N.Of H1 ρ1 σ) : StOk G pn N H1 ρ1 σ where
  S := S1
  kp := ⟨fun b o e n t => k.keep b o (s.kp.keep b o e n t) (fun q => (s.lo b q).elim n fun z => by rw [e] at z; cases z) t, fun b ps e => by
    obtain ⟨ps', e'⟩ := s.kp.tb b ps e
    exact k.tb b ps' e'⟩
  lo := fun a q => s.lo a (by rw [← so.lo]; exact q)
  fx := s.fx
  th := fun a q z => by
    cases e : H a with
    | none => exact s.th a q e
    | some o =>
      by_cases l : Lo ρ σ a
      · rw [← so.lo] at l
        obtain ⟨o', e', _⟩ := S1.lot l
        rw [z] at e'
        cases e'
      · by_cases t : ∀ ps, o ≠ .tbl ps
        · rw [k.keep a o e l t] at z
          cases z
        · have t' : ∃ ps, o = .tbl ps := Classical.byContradiction fun z => t fun ps e => z ⟨ps, e⟩
          obtain ⟨ps, rfl⟩ := t'
          obtain ⟨ps', e'⟩ := k.tb a ps e
          rw [z] at e'
          cases e'
  ol := s.ol
  oh := s.oh
theorem StOk.back (s : StOk G pn N H ρ σ) {a : Addr} (n : H a = none) : N.H0 a = none := s.kp.back s.th n
/-- an expression's value in hand -/
theorem StOk.hand (s : StOk G pn N H ρ σ) {d : D} {v : V} (r : ValR G pn N.Of ρ1 σ H H1 d v) : RtR G pn N ρ1 σ H1 d v := ⟨r.1, fun z => by
  obtain ⟨a, e, n, h⟩ := r.2 z
  exact ⟨a, e, .inr (s.back n), h⟩⟩
theorem es_bind {α β : Type} {R : RT α β} {m : Env → Out α} {k : α → Env → Out Fl} {D : Ends} (s : StOk G pn N H ρ σ) (h : PostS G pn W N (bd m k ρ) D) :
    PostG G pn W R N.Of H ρ σ (m ρ) fun b H1 => ∃ a ρ1, m ρ = .ok a ρ1 ∧ StOk G pn N H1 ρ1 σ ∧ SameOwn ρ ρ1 ∧ Kp (Lo ρ σ) H H1 ∧ R N.Of ρ1 σ H H1 a b ∧ PostS G pn W N (k a ρ1) D := by
  unfold bd at h
  cases e : m ρ with
  | stuck => rw [e] at h; exact h
  | exc x ρ' =>
    rw [e] at h
    exact fun H' cls dd kp so S r => h σ H' cls dd (s.step kp so S) r
  | ok a ρ1 =>
    rw [e] at h
    exact fun b H1 kp so S1 r => ⟨a, ρ1, rfl, s.step kp so S1, so, kp, r, h⟩
theorem RtR.notO (s : StOk G pn N H ρ σ) {a : Addr} (h : N.L0 a ∨ N.H0 a = none) : ¬ N.Of a := fun q => h.elim (fun z => s.ol a z q) fun z => s.oh a q z
theorem own_set {i j : Nat} {o : Option D} {v : Option V} {a : Addr} (hi : i < ρ.length) (hl : ρ.length = σ.length) (h : OwnA (ρ.set i o) (σ.set i v) j a) : (j = i ∧ v = some (.ref a) ∧ ∃ d, o = some d ∧ d.own = true) ∨ (j ≠ i ∧ OwnA ρ σ j a) := by
  obtain ⟨h1, h2⟩ := h
  by_cases e : j = i
  · subst e
    refine .inl ⟨rfl, ?_, ?_⟩
    · rw [List.getElem?_set_self (by omega)] at h2
      exact Option.some.inj h2
    · obtain ⟨d, h3, h4⟩ := ownAt_true h1
      rw [rdS_some, List.getElem?_set_self hi] at h3
      exact ⟨d, Option.some.inj h3, h4⟩
  · refine .inr ⟨e, ?_, ?_⟩
    · unfold ownAt rdS at h1 ⊢
      rw [List.getElem?_set_ne (Ne.symm e)] at h1
      exact h1
    · rw [List.getElem?_set_ne (Ne.symm e)] at h2
      exact h2
/-- a slot takes the value in hand -/
theorem StOk.put {i : Nat} {d : D} {v : V} (s : StOk G pn N H ρ σ) (r : RtR G pn N ρ σ H d v) (hi : i < ρ.length) (hf : i ∉ N.fix) : StOk G pn N H (ρ.set i (some d)) (σ.set i (some v)) := by
  have hl := s.S.len
  have sub : ∀ b, Lo (ρ.set i (some d)) (σ.set i (some v)) b → (d.own = true ∧ v = .ref b) ∨ Lo ρ σ b := fun b ⟨j, q⟩ => by
    rcases own_set hi hl q with ⟨_, e, d', e', ho⟩ | ⟨_, q⟩
    · cases e'
      exact .inl ⟨ho, Option.some.inj e⟩
    · exact .inr ⟨j, q⟩
  have rel : ∀ {O2 : Addr → Prop}, (∀ b, Oo N.Of (ρ.set i (some d)) (σ.set i (some v)) b → O2 b) → BodyR G pn O2 H d v → (d.own = false → RelD G pn O2 H d v) → (∀ j x, rdS ρ j = some x → ∃ u, σ[j]? = some (some u) ∧ BodyR G pn O2 H x u ∧ (x.own = false → RelD G pn O2 H x u)) →
      ∀ j x, rdS (ρ.set i (some d)) j = some x → ∃ u, (σ.set i (some v))[j]? = some (some u) ∧ BodyR G pn (Oo N.Of (ρ.set i (some d)) (σ.set i (some v))) H x u ∧ (x.own = false → RelD G pn (Oo N.Of (ρ.set i (some d)) (σ.set i (some v))) H x u) := by
    intro O2 hs hb hr hS j x e
    have low : ∀ {x : D} {u : V}, BodyR G pn O2 H x u → (x.own = false → RelD G pn O2 H x u) → BodyR G pn (Oo N.Of (ρ.set i (some d)) (σ.set i (some v))) H x u ∧ (x.own = false → RelD G pn (Oo N.Of (ρ.set i (some d)) (σ.set i (some v))) H x u) := fun b r =>
      ⟨b.mono Kp.refl (fun b q => .inl (hs b q)) (fun _ _ _ _ z => z) r, fun z => (r z).less hs⟩
    rw [rdS_some] at e
    by_cases ej : j = i
    · subst ej
      rw [List.getElem?_set_self hi] at e
      cases e
      exact ⟨v, List.getElem?_set_self (by omega), low hb hr⟩
    · rw [List.getElem?_set_ne (Ne.symm ej)] at e
      obtain ⟨u, h1, h2, h3⟩ := hS j x (rdS_some.mpr e)
      exact ⟨u, by rw [List.getElem?_set_ne (Ne.symm ej)]; exact h1, low h2 h3⟩
  have rest : ∀ {S' : SR G pn N.Of H (ρ.set i (some d)) (σ.set i (some v))}, (∀ a, d.own = true → v = .ref a → N.L0 a ∨ N.H0 a = none) → StOk G pn N H (ρ.set i (some d)) (σ.set i (some v)) := fun {S'} ha => ⟨S', s.kp, fun a q => (sub a q).elim (fun z => ha a z.1 z.2) (s.lo a), fun j hj => by
    rw [List.getElem?_set_ne (fun z => hf (by rw [z]; exact hj))]
    exact s.fx j hj, s.th, s.ol, s.oh⟩
  cases ho : d.own with
  | false =>
    have hr := r.1 ho
    have sub' : ∀ b, Lo (ρ.set i (some d)) (σ.set i (some v)) b → Lo ρ σ b := fun b q => (sub b q).elim (fun z => by rw [ho] at z; cases z.1) id
    refine rest (S' := ⟨by simpa using hl, rel (O2 := Oo N.Of ρ σ) (fun b q => q.imp id (sub' b)) hr.body (fun _ => hr) s.S.rel, fun j k a h1 h2 => ?_, fun a q => s.S.dis a (sub' a q), s.S.oft, s.S.tab⟩) fun a z => by rw [ho] at z; cases z
    rcases own_set hi hl h1 with ⟨_, _, d', e', z⟩ | ⟨_, q1⟩
    · cases e'
      rw [ho] at z
      cases z
    · rcases own_set hi hl h2 with ⟨_, _, d', e', z⟩ | ⟨_, q2⟩
      · cases e'
        rw [ho] at z
        cases z
      · exact s.S.inj j k a q1 q2
  | true =>
    obtain ⟨a, rfl, ha, S2, hb⟩ := r.2 ho
    have na : ¬ Lo ρ σ a := fun q => S2.dis a q (.inr rfl)
    refine rest (S' := ⟨by simpa using hl, rel (O2 := Oo (fun b => N.Of b ∨ b = a) ρ σ) (fun b q => ?_) hb (fun z => by rw [ho] at z; cases z) S2.rel, fun j k b h1 h2 => ?_, fun b q z => ?_, s.S.oft, s.S.tab⟩) fun b _ z => by cases z; exact ha
    · rcases q with q | q
      · exact .inl (.inl q)
      · rcases sub b q with ⟨_, z⟩ | z
        · cases z
          exact .inl (.inr rfl)
        · exact .inr z
    · rcases own_set hi hl h1 with ⟨e1, z1, _⟩ | ⟨n1, q1⟩
      · rcases own_set hi hl h2 with ⟨e2, z2, _⟩ | ⟨n2, q2⟩
        · rw [e1, e2]
        · cases z1
          exact absurd ⟨k, q2⟩ na
      · rcases own_set hi hl h2 with ⟨e2, z2, _⟩ | ⟨n2, q2⟩
        · cases z2
          exact absurd ⟨j, q1⟩ na
        · exact s.S.inj j k b q1 q2
    · rcases sub b q with ⟨_, e⟩ | e
      · cases e
        exact RtR.notO s ha z
      · exact s.S.dis b e z
/-- a slot is given up -/
theorem StOk.drop {i : Nat} (s : StOk G pn N H ρ σ) : StOk G pn N H (ρ.set i none) σ := by
  have get : ∀ {j x}, rdS (ρ.set i none) j = some x → j ≠ i ∧ rdS ρ j = some x := fun {j x} e => by
    rw [rdS_some] at e
    by_cases ej : j = i
    · subst ej
      by_cases hl : j < ρ.length
      · rw [List.getElem?_set_self hl] at e
        cases e
      · rw [List.getElem?_eq_none (by simpa using hl)] at e
        cases e
    · rw [List.getElem?_set_ne (Ne.symm ej)] at e
      exact ⟨ej, rdS_some.mpr e⟩
  have own : ∀ {j a}, OwnA (ρ.set i none) σ j a → OwnA ρ σ j a := fun {j a} h => by
    obtain ⟨d, h1, h2⟩ := ownAt_true h.1
    obtain ⟨_, h3⟩ := get h1
    exact ⟨by rw [ownAt_some h3]; exact h2, h.2⟩
  have lo : ∀ a, Lo (ρ.set i none) σ a → Lo ρ σ a := fun a ⟨j, q⟩ => ⟨j, own q⟩
  refine ⟨⟨by simpa using s.S.len, fun j x e => ?_, fun j k a h1 h2 => s.S.inj j k a (own h1) (own h2), fun a q => s.S.dis a (lo a q), s.S.oft, s.S.tab⟩, s.kp, fun a q => s.lo a (lo a q), s.fx, s.th, s.ol, s.oh⟩
  obtain ⟨v, h1, h2, h3⟩ := s.S.rel j x (get e).2
  have le : ∀ b, Oo N.Of (ρ.set i none) σ b → Oo N.Of ρ σ b := fun b q => q.imp id (lo b)
  exact ⟨v, h1, h2.mono Kp.refl (fun b q => .inl (le b q)) (fun _ _ _ _ z => z) h3, fun z => (h3 z).less le⟩
/-- .. and what it held is in hand -/
theorem StOk.take {i : Nat} {d : D} (s : StOk G pn N H ρ σ) (h : rdS ρ i = some d) : ∃ v, σ[i]? = some (some v) ∧ RtR G pn N (ρ.set i none) σ H d v := by
  obtain ⟨v, h1, h2, h3⟩ := s.S.rel i d h
  refine ⟨v, h1, fun z => ?_, fun z => ?_⟩
  · refine (h3 z).less fun b q => q.imp id fun ⟨j, q⟩ => ?_
    obtain ⟨x, e1, e2⟩ := ownAt_true q.1
    rw [rdS_some] at e1
    by_cases ej : j = i
    · subst ej
      by_cases hl : j < ρ.length
      · rw [List.getElem?_set_self hl] at e1
        cases e1
      · rw [List.getElem?_eq_none (by simpa using hl)] at e1
        cases e1
    · rw [List.getElem?_set_ne (Ne.symm ej)] at e1
      exact ⟨j, by rw [ownAt_some (rdS_some.mpr e1)]; exact e2, q.2⟩
  · obtain ⟨a, rfl⟩ := h2.ref z
    have own : OwnA ρ σ i a := ⟨by rw [ownAt_some h]; exact z, h1⟩
    have eO : ∀ b, Oo (fun b => N.Of b ∨ b = a) (ρ.set i none) σ b → Oo N.Of ρ σ b := fun b q => by
      rcases q with (q | q) | ⟨j, q⟩
      · exact .inl q
      · exact .inr ⟨i, by rw [q]; exact own⟩
      · obtain ⟨x, e1, e2⟩ := ownAt_true q.1
        rw [rdS_some] at e1
        by_cases ej : j = i
        · subst ej
          by_cases hl : j < ρ.length
          · rw [List.getElem?_set_self hl] at e1
            cases e1
          · rw [List.getElem?_eq_none (by simpa using hl)] at e1
            cases e1
        · rw [List.getElem?_set_ne (Ne.symm ej)] at e1
          exact .inr ⟨j, by rw [ownAt_some (rdS_some.mpr e1)]; exact e2, q.2⟩
    have S1 := (s.drop (i := i)).S
    refine ⟨a, rfl, s.lo a ⟨i, own⟩, ⟨S1.len, fun j x e => ?_, S1.inj, fun b q q2 => ?_, fun b q => ?_, S1.tab⟩, h2.mono Kp.refl (fun b q => .inl (eO b q)) (fun _ _ _ _ z => z) h3⟩
    · have e' : rdS ρ j = some x := by
        rw [rdS_some] at e ⊢
        by_cases ej : j = i
        · subst ej
          by_cases hl : j < ρ.length
          · rw [List.getElem?_set_self hl] at e
            cases e
          · rw [List.getElem?_eq_none (by simpa using hl)] at e
            cases e
        · rw [List.getElem?_set_ne (Ne.symm ej)] at e
          exact e
      obtain ⟨v, k1, k2, k3⟩ := s.S.rel j x e'
      exact ⟨v, k1, k2.mono Kp.refl (fun b q => .inl (eO b q)) (fun _ _ _ _ z => z) k3, fun z => (k3 z).less eO⟩
    · rcases q2 with q2 | q2
      · exact S1.dis b q q2
      · subst q2
        obtain ⟨j, q⟩ := q
        obtain ⟨x, e1, e2⟩ := ownAt_true q.1
        rw [rdS_some] at e1
        by_cases ej : j = i
        · subst ej
          by_cases hl : j < ρ.length
          · rw [List.getElem?_set_self hl] at e1
            cases e1
          · rw [List.getElem?_eq_none (by simpa using hl)] at e1
            cases e1
        · rw [List.getElem?_set_ne (Ne.symm ej)] at e1
          exact ej (s.S.inj j i b ⟨by rw [ownAt_some (rdS_some.mpr e1)]; exact e2, q.2⟩ own)
    · rcases q with q | q
      · exact s.S.oft b q
      · subst q
        exact s.S.lot ⟨i, own⟩
/-- what is in hand, frozen -/
theorem RtR.fr (s : StOk G pn N H ρ σ) {d : D} {v : V} (r : RtR G pn N ρ σ H d v) : RelD G pn (Oo N.Of ρ σ) H d.fr v := by
  cases ho : d.own with
  | false =>
    have q := r.1 ho
    rw [q.fr_eq]
    exact q
  | true =>
    obtain ⟨a, e, ha, S', hb⟩ := r.2 ho
    have hb' : BodyR G pn (Oo N.Of ρ σ) H d v := hb.mono Kp.refl (fun b q => .inl (q.elim (fun z => .inl (.inl z)) .inr)) (fun _ _ _ _ z => z) (fun z => by rw [ho] at z; cases z)
    refine hb'.freeze (fun a' e' _ => ?_) (fun z => by rw [ho] at z; cases z)
    rw [e] at e'
    cases e'
    rintro (z | z)
    · exact RtR.notO s ha z
    · exact S'.dis a z (.inr rfl)
theorem RtR.of {d : D} {v : V} (h : RelD G pn (Oo N.Of ρ σ) H d v) : RtR G pn N ρ σ H d v := ⟨fun _ => h, fun z => by rw [h.notown] at z; cases z⟩
/-! ### statements -/
theorem PS.tS_imp {st : Stmt} {f : Env → Out Fl} {t : TS} (h : PS X st t) (hi : ∀ D σ H, tS G pn W N f D σ H → t D σ H) : DS X G pn W N st f := PS.imp h hi
theorem s_pass : DS X G pn W N (.Pass pos) (run C .pass) := PS.imp ps_pass fun D σ H ⟨ρ, s, h⟩ => by
  unfold run at h
  exact h σ H s
theorem s_break : DS X G pn W N (.Break pos) (run C .brk) := PS.imp ps_break fun D σ H ⟨ρ, s, h⟩ => by
  unfold run at h
  exact h σ H s
theorem s_continue : DS X G pn W N (.Continue pos) (run C .cnt) := PS.imp ps_continue fun D σ H ⟨ρ, s, h⟩ => by
  unfold run at h
  exact h σ H s
theorem s_retN : DS X G pn W N (.Return none pos) (run C .retN) := PS.imp ps_retN fun D σ H ⟨ρ, s, h⟩ => by
  unfold run at h
  exact h .non σ H s (.of (show RelD G pn _ H .non .non from rfl))
theorem s_ret {e : Expr} {c : CE} (he : DE X G pn W e (ev C c)) : DS X G pn W N (.Return (some e) pos) (run C (.ret c)) := PS.imp (ps_ret he) fun D σ H ⟨ρ, s, h⟩ => by
  unfold run at h
  exact ⟨N.Of, ρ, s.S, PostG.mono (es_bind s h) fun v H1 ⟨d, ρ1, _, s1, _, _, r, q⟩ => q v σ H1 s1 (s.hand r)⟩
theorem s_retS {x : Str} {p : Pos} {i : Nat} (hN : X.N[i]? = some x) (hv : Vis X.env.scope x) (hd : (x == ("__debug__" : Str)) = false) (hcd : (x == ("__classdict__" : Str)) = false) : DS X G pn W N (.Return (some (.Name x p)) pos) (run C (.retS i)) :=
  PS.imp (ps_ret (pe_var hN hv hd hcd)) fun D σ H ⟨ρ, s, h⟩ => by
    unfold run at h
    cases e : rdS ρ i with
    | none => simp only [e] at h; exact (show False from h).elim
    | some d =>
      simp only [e] at h
      obtain ⟨v, h1, h2⟩ := s.take e
      exact ⟨v, h1, h v σ H s.drop h2⟩
theorem s_drop {e : Expr} {c : CE} (he : DE X G pn W e (ev C c)) (hs : swapsWith e none pos.line X.env = pure false) : DS X G pn W N (.Expr e pos) (run C (.drop c)) := PS.imp (ps_expr he hs) fun D σ H ⟨ρ, s, h⟩ => by
  unfold run at h
  exact ⟨N.Of, ρ, s.S, PostG.mono (es_bind s h) fun v H1 ⟨d, ρ1, _, s1, _, _, r, q⟩ => q σ H1 s1⟩
/-! ### name = value, (a, b) = value -/
/-- a target stores what is in hand -/
def DG (X : Cx) (G : Txt) (pn : List (Addr × Obj)) (N : Ent) (e : Expr) (t : Tg) : Prop :=
  PG X e fun v σ H Q => ∃ ρ d ρ', StOk G pn N H ρ σ ∧ RtR G pn N ρ σ H d v ∧ asgT t d ρ = some ρ' ∧ ∀ σ', StOk G pn N H ρ' σ' → (d.own = false → ∀ b, Lo ρ' σ' b → Lo ρ σ b) → (∀ j, j ∉ t.ix → σ'[j]? = σ[j]? ∧ ρ'[j]? = ρ[j]?) → Q σ' H
def DGs (X : Cx) (G : Txt) (pn : List (Addr × Obj)) (N : Ent) (es : List Expr) (ts : List Tg) : Prop :=
  PGs X es fun vs σ H Q => ∃ ρ ds ρ', StOk G pn N H ρ σ ∧ RelDs G pn (Oo N.Of ρ σ) H ds vs ∧ asgT.asgTs ts ds ρ = some ρ' ∧ ∀ σ', StOk G pn N H ρ' σ' → (∀ b, Lo ρ' σ' b → Lo ρ σ b) → (∀ j, j ∉ Tg.ixs ts → σ'[j]? = σ[j]? ∧ ρ'[j]? = ρ[j]?) → Q σ' H
theorem PG.imp {e : Expr} {t t' : TG} (h : PG X e t) (hi : ∀ v σ H Q, t' v σ H Q → t v σ H Q) : PG X e t' := ⟨fun pins s σ H v u Q I r hw => h.run pins s σ H v u Q I r (hi v σ H Q hw)⟩
theorem PGs.imp {e : List Expr} {t t' : TGs} (h : PGs X e t) (hi : ∀ v σ H Q, t' v σ H Q → t v σ H Q) : PGs X e t' := ⟨fun pins s σ H v u Q I r hw => h.run pins s σ H v u Q I r (hi v σ H Q hw)⟩
theorem PG.or {e : Expr} {t t' : TG} (h : PG X e t) (h' : PG X e t') : PG X e fun v σ H Q => t v σ H Q ∨ t' v σ H Q :=
  ⟨fun pins s σ H v u Q I r hw => hw.elim (h.run pins s σ H v u Q I r) (h'.run pins s σ H v u Q I r)⟩
theorem g_name {x : Str} {i : Nat} (hN : X.N.Nodup) (hi : X.N[i]? = some x) (hx : Loc X.env.scope x) (hf : X.fn x = true ∨ X.env.scope.names.lookup x = some .local) (hn : i ∉ N.fix) : DG X G pn N (.Name x pos) (.nm i) :=
  PG.imp (pg_name hN hi hx hf) fun v σ H Q ⟨ρ, d, ρ', s, r, e, q⟩ => by
    unfold asgT at e
    split at e
    · rename_i hl
      cases e
      refine q _ (s.put r hl hn) (fun ho b ⟨j, h⟩ => ?_) fun j hj => ?_
      · rcases own_set hl s.S.len h with ⟨_, _, d', e', z⟩ | ⟨_, h⟩
        · cases e'
          rw [ho] at z
          cases z
        · exact ⟨j, h⟩
      · have nj : i ≠ j := fun z => hj (by rw [z]; simp [Tg.ix])
        rw [List.getElem?_set_ne nj, List.getElem?_set_ne nj]
        exact ⟨rfl, rfl⟩
    · cases e
theorem g_nil : DGs X G pn N [] [] := PGs.imp pgs_nil fun vs σ H Q ⟨ρ, ds, ρ', s, r, e, q⟩ => by
  cases ds with
  | nil =>
    unfold asgT.asgTs at e
    cases e
    exact ⟨r, q σ s (fun _ h => h) fun _ _ => ⟨rfl, rfl⟩⟩
  | cons d ds => cases e
theorem g_cons {e : Expr} {es : List Expr} {t : Tg} {ts : List Tg} (h1 : DG X G pn N e t) (h2 : DGs X G pn N es ts) (hs : (assignEach (e :: es) X.env).map (·.2) = assign e X.env :: (assignEach es X.env).map (·.2)) : DGs X G pn N (e :: es) (t :: ts) :=
  PGs.imp (pgs_cons h1 h2 hs) fun vs σ H Q ⟨ρ, ds, ρ', s, r, e, q⟩ => by
    cases ds with
    | nil => cases e
    | cons d ds =>
      obtain ⟨v, w, rfl, r1, r2⟩ := r
      unfold asgT.asgTs at e
      cases e1 : asgT t d ρ with
      | none => rw [e1] at e; cases e
      | some ρ1 =>
        rw [e1] at e
        refine ⟨v, w, rfl, ρ, d, ρ1, s, .of r1, e1, fun σ1 s1 k1 f1 => ⟨ρ1, ds, ρ', s1, r2.less fun b q => q.imp id (k1 r1.notown b), e, fun σ2 s2 k2 f2 => q σ2 s2 (fun b h => k1 r1.notown b (k2 b h)) fun j hj => ?_⟩⟩
        have hj' : j ∉ t.ix ∧ j ∉ Tg.ixs ts := by simpa [Tg.ixs] using hj
        exact ⟨(f2 j hj'.2).1.trans (f1 j hj'.1).1, (f2 j hj'.2).2.trans (f1 j hj'.1).2⟩
theorem g_tup {es : List Expr} {k : Nat} {ts : List Tg} (hK : X.K = G.K) (hc : X.calm = true) (h : DGs X G pn N es ts) (hl : es.length = ts.length) (hn : (assignEach es X.env).length = es.length) (hst : (assignEach es X.env).findIdx? (·.1) = none) : DG X G pn N (.Tuple es k pos) (.tup ts) := by
  have len : ∀ {ts : List Tg} {ds : List D} {ρ ρ' : Env}, asgT.asgTs ts ds ρ = some ρ' → ds.length = ts.length := by
    intro ts
    induction ts with
    | nil =>
      intro ds ρ ρ' e
      cases ds with
      | nil => rfl
      | cons d ds => cases e
    | cons t ts ih =>
      intro ds ρ ρ' e
      cases ds with
      | nil => cases e
      | cons d ds =>
        unfold asgT.asgTs at e
        cases e1 : asgT t d ρ with
        | none => rw [e1] at e; cases e
        | some ρ1 =>
          rw [e1] at e
          simp [ih e]
  refine PG.imp (PG.or (pg_tup (k := k) (pos := pos) hc h hn hst) (pg_lst (k := k) (pos := pos) hc h hn hst)) fun v σ H Q ⟨ρ, d, ρ', s, r, e, q⟩ => ?_
  cases d with
  | tup xs =>
    replace e : asgT.asgTs ts xs ρ = some ρ' := e
    obtain ⟨a, vs, rfl, h1, h2⟩ := bodyT hK (r.1 rfl).body
    exact .inl ⟨a, vs, rfl, h1, by rw [h2.length, len e, hl], ρ, xs, ρ', s, h2, e, fun σ' s' k' f' => q σ' s' (fun _ => k') f'⟩
  | lst o xs =>
    replace e : asgT.asgTs ts xs ρ = some ρ' := e
    have fr : RelD G pn (Oo N.Of ρ σ) H (.lst false xs) v := RtR.fr s r
    obtain ⟨a, vs, rfl, h1, h2⟩ := bodyL fr.body
    exact .inr ⟨a, vs, rfl, SqL.of h1, by rw [h2.length, len e, hl], ρ, xs, ρ', s, h2, e, fun σ' s' k' f' => q σ' s' (fun _ => k') f'⟩
  | _ => cases e
theorem s_asg {tg e : Expr} {t : Tg} {c : CE} (he : DE X G pn W e (ev C c)) (hg : DG X G pn N tg t) (hs : swapsWithSole [tg] e pos.line X.env = pure false) (hw : swappedStores [tg] e X.env = pure none) (h1 : (assignEach [tg] X.env).map (·.2) = [assign tg X.env]) : DS X G pn W N (.Assign [tg] e pos) (run C (.asg t c)) :=
  PS.imp (ps_asg he hg hs hw h1) fun D σ H ⟨ρ, s, h⟩ => by
    unfold run at h
    refine ⟨N.Of, ρ, s.S, PostG.mono (es_bind s h) fun v H1 ⟨d, ρ1, _, s1, _, _, r, q⟩ => ?_⟩
    cases e1 : asgT t d ρ1 with
    | none => simp only [e1] at q; exact (show False from q).elim
    | some ρ' =>
      simp only [e1] at q
      exact ⟨ρ1, d, ρ', s1, s.hand r, e1, fun σ' s' _ _ => q σ' H1 s'⟩
/-- x = y, what y held -/
theorem s_mov {x y : Str} {p p' : Pos} {i j : Nat} (hN : X.N.Nodup) (hi : X.N[i]? = some x) (hx : Loc X.env.scope x) (hf : X.fn x = true ∨ X.env.scope.names.lookup x = some .local) (hn : i ∉ N.fix) (hj : X.N[j]? = some y) (hv : Vis X.env.scope y) (hd : (y == ("__debug__" : Str)) = false) (hcd : (y == ("__classdict__" : Str)) = false) :
    DS X G pn W N (.Assign [.Name x p'] (.Name y p) pos) (run C (.mov i j)) :=
  PS.imp (ps_set hN hi hx (pe_var hj hv hd hcd) rfl hf) fun D σ H ⟨ρ, s, h⟩ => by
    unfold run at h
    cases e : rdS ρ j with
    | none => simp only [e] at h; exact (show False from h).elim
    | some d =>
      simp only [e] at h
      split at h
      · rename_i hc
        rw [Bool.and_eq_true, decide_eq_true_eq, decide_eq_true_eq] at hc
        obtain ⟨v, h1, h2⟩ := s.take e
        exact ⟨v, h1, h _ H (s.drop.put h2 (by simpa using hc.1) hn)⟩
      · exact (show False from h).elim
/-! ### blocks -/
theorem ss_nil : DSs X G pn W N [] (runs C .nil) := PSs.imp pss_nil fun D σ H ⟨ρ, s, h⟩ => by
  unfold runs at h
  exact h σ H s
theorem ss_cons {st : Stmt} {rest : List Stmt} {c : CS} {r : CSs} (h1 : DS X G pn W N st (run C c)) (h2 : DSs X G pn W N rest (runs C r)) : DSs X G pn W N (st :: rest) (runs C (.cons c r)) := PSs.imp (pss_cons h1 h2) fun D σ H ⟨ρ, s, h⟩ => by
  unfold runs bd at h
  refine ⟨ρ, s, ?_⟩
  cases e : run C c ρ with
  | stuck => rw [e] at h; exact h
  | exc x ρ1 => rw [e] at h; exact h
  | ok f ρ1 =>
    rw [e] at h
    cases f with
    | nx => exact fun σ' H' s' => ⟨ρ1, s', h⟩
    | bk => exact h
    | ct => exact h
    | rt d => exact h
theorem ss_frz {i : Nat} {rest : List Stmt} {r : CSs} (hn : i ∉ N.fix) (h2 : DSs X G pn W N rest (runs C r)) : DSs X G pn W N rest (runs C (.frz i r)) := PSs.imp h2 fun D σ H ⟨ρ, s, h⟩ => by
  unfold runs at h
  cases e : rdS ρ i with
  | none => simp only [e] at h; exact (show False from h).elim
  | some d =>
    simp only [e] at h
    refine ⟨_, ?_, h⟩
    obtain ⟨v, h1, h2⟩ := s.take e
    have hl : i < ρ.length := by
      rw [rdS_some] at e
      exact (List.getElem?_eq_some_iff.mp e).1
    have r' : RtR G pn N (ρ.set i none) σ H d.fr v := .of (h2.fr s.drop)
    have s' := s.drop.put r' (by simpa using hl) hn
    rw [List.set_set, List.set_getElem?_self' h1] at s'
    exact s'
theorem s_if {c : Expr} {a b : List Stmt} {t : CE} {x y : CSs} (hc : DT X G pn W c (truM (ev C t))) (ha : DSs X G pn W N a (runs C x)) (hb : DSs X G pn W N b (runs C y)) : DS X G pn W N (.If c a b pos) (run C (.iff t x y)) := PS.imp (ps_if hc ha hb) fun D σ H ⟨ρ, s, h⟩ => by
  unfold run at h
  refine ⟨N.Of, ρ, s.S, PostG.mono (es_bind s h) fun k H1 ⟨b', ρ1, _, s1, _, _, r, q⟩ => ?_⟩
  have e' : k = b' := r
  subst e'
  cases k with
  | true => exact ⟨ρ1, s1, q⟩
  | false => exact ⟨ρ1, s1, q⟩
end
end PI
/-! PI, part l: what is changed in place. -/
namespace PI
open PySem PySem.Spec L2 PyProof.Rows
section
variable {X : Cx} {G : Txt} {pn : List (Addr × Obj)} {W : WX} {C : Ctx} {pos : Pos} {N : Ent} {H H1 H' : Hp} {ρ ρ1 ρ' : Env} {σ σ' : L2.St}
/-- a list, a dict, an object -/
def Thing : HO → Prop
  | .lst _ => True
  | .dK _ => True
  | .ins .. => True
  | _ => False
theorem Thing.tbl {o : HO} (h : Thing o) : ∀ ps, o ≠ .tbl ps := fun ps e => by
  subst e
  exact h
theorem tabs_upd {T : List (Addr × Str)} {a : Addr} {o nw : HO} (t : LamX.Tabs T H) (h : H a = some o) (ho : Thing o) : LamX.Tabs T (upd H a nw) := fun p hp => by
  obtain ⟨ps, h1, h2, h3⟩ := t p hp
  have n1 : p.1 ≠ a := fun z => by
    rw [z, h] at h1
    cases h1
    exact ho
  refine ⟨ps, by rw [upd_ne n1]; exact h1, h2, fun q cv e => ?_⟩
  obtain ⟨c, e1, e2⟩ := h3 q cv e
  have n2 : c ≠ a := fun z => by
    rw [z, h] at e2
    cases e2
    exact ho
  exact ⟨c, e1, by rw [upd_ne n2]; exact e2⟩
theorem body_thing {O : Addr → Prop} {d : D} {a : Addr} (h : BodyR G pn O H d (.ref a)) (ho : d.own = true) : ∃ o, H a = some o ∧ Thing o := by
  cases d with
  | lst o xs => obtain ⟨a', vs, e, h1, _⟩ := h; cases e; exact ⟨_, h1, trivial⟩
  | dic o ks ds => obtain ⟨a', vs, e, h1, _⟩ := h; cases e; exact ⟨_, h1, trivial⟩
  | ins o C ds => obtain ⟨a', dx, c, vs, e, _, h1, _⟩ := h; cases e; exact ⟨_, h1, trivial⟩
  | _ => cases ho
/-- what a slot of ours holds is changed in place -/
theorem StOk.mut {i : Nat} {a : Addr} {o o' : D} {nw : HO} (s : StOk G pn N H ρ σ) (h : rdS ρ i = some o) (ho : o.own = true) (hσ : σ[i]? = some (some (.ref a))) (ho' : o'.own = true) (nt : Thing nw)
    (hb : BodyR G pn (Oo N.Of ρ σ) (upd H a nw) o' (.ref a)) : StOk G pn N (upd H a nw) (ρ.set i (some o')) σ := by
  have hl : i < ρ.length := by
    rw [rdS_some] at h
    exact (List.getElem?_eq_some_iff.mp h).1
  have so : SameOwn ρ (ρ.set i (some o')) := fun j => by
    by_cases e : j = i
    · subst e
      rw [ownAt_some h, ownAt_some (rdS_some.mpr (List.getElem?_set_self hl)), ho, ho']
    · unfold ownAt rdS
      rw [List.getElem?_set_ne (Ne.symm e)]
  have own : OwnA ρ σ i a := ⟨by rw [ownAt_some h]; exact ho, hσ⟩
  obtain ⟨v0, k1, k2, _⟩ := s.S.rel i o h
  rw [hσ] at k1
  cases k1
  obtain ⟨old, k3, k4⟩ := body_thing k2 ho
  have el : Lo (ρ.set i (some o')) σ = Lo ρ σ := so.lo
  have eo : Oo N.Of (ρ.set i (some o')) σ = Oo N.Of ρ σ := so.oo
  have kp : ∀ {L : Addr → Prop}, L a → Kp L H (upd H a nw) := fun {L} la => ⟨fun b u e n _ => by
    have nb : b ≠ a := fun z => n (by rw [z]; exact la)
    rw [upd_ne nb]
    exact e, fun b ps e => by
    have nb : b ≠ a := fun z => by
      rw [z, k3] at e
      cases e
      exact k4
    exact ⟨ps, by rw [upd_ne nb]; exact e⟩⟩
  refine ⟨⟨by simpa using s.S.len, fun j x e => ?_, fun j k b h1 h2 => s.S.inj j k b ⟨by rw [← so j]; exact h1.1, h1.2⟩ ⟨by rw [← so k]; exact h2.1, h2.2⟩, fun b q => s.S.dis b (by rw [← el]; exact q), fun b q => ?_, tabs_upd s.S.tab k3 k4⟩, ?_, fun b q => s.lo b (by rw [← el]; exact q), s.fx, fun b q => ?_, s.ol, s.oh⟩
  · rw [rdS_some] at e
    by_cases ej : j = i
    · subst ej
      rw [List.getElem?_set_self hl] at e
      cases e
      rw [eo]
      exact ⟨_, hσ, hb, fun z => by rw [ho'] at z; cases z⟩
    · rw [List.getElem?_set_ne (Ne.symm ej)] at e
      obtain ⟨v, m1, m2, m3⟩ := s.S.rel j x (rdS_some.mpr e)
      have kk : Kp (Oo N.Of ρ σ) H (upd H a nw) := kp (.inr ⟨i, own⟩)
      rw [eo]
      refine ⟨v, m1, m2.mono kk (fun b q => .inl q) (fun b u ev hx e1 => ?_) m3, fun z => RelD.mono kk (fun b q => .inl q) x v (m3 z)⟩
      subst ev
      have nb : b ≠ a := fun z => by
        subst z
        exact ej (s.S.inj j i b ⟨by rw [ownAt_some (rdS_some.mpr e)]; exact hx, m1⟩ own)
      rw [upd_ne nb]
      exact e1
  · obtain ⟨u, e1, e2⟩ := s.S.oft b q
    by_cases nb : b = a
    · subst nb
      exact ⟨nw, upd_same, nt.tbl⟩
    · exact ⟨u, by rw [upd_ne nb]; exact e1, e2⟩
  · exact ⟨fun b u e n t => by
      have nb : b ≠ a := fun z => by
        subst z
        exact (s.lo b ⟨i, own⟩).elim n fun z => by rw [e] at z; cases z
      rw [upd_ne nb]
      exact s.kp.keep b u e n t, fun b ps e => by
      obtain ⟨ps', e'⟩ := s.kp.tb b ps e
      have nb : b ≠ a := fun z => by
        rw [z, k3] at e'
        cases e'
        exact k4
      exact ⟨ps', by rw [upd_ne nb]; exact e'⟩⟩
  · by_cases nb : b = a
    · subst nb
      rw [upd_same]
      simp
    · rw [upd_ne nb]
      exact s.th b q
/-- what is not ours stays while ours changes -/
theorem RelDs.updO {O : Addr → Prop} {a : Addr} {o nw : HO} {ds : List D} {vs : List V} (h : RelDs G pn O H ds vs) (ha : O a) (hH : H a = some o) (ho : Thing o) : RelDs G pn O (upd H a nw) ds vs :=
  RelDs.mono ⟨fun b u e n _ => by
    have nb : b ≠ a := fun z => n (by rw [z]; exact ha)
    rw [upd_ne nb]
    exact e, fun b ps e => by
    have nb : b ≠ a := fun z => by
      rw [z, hH] at e
      cases e
      exact ho
    exact ⟨ps, by rw [upd_ne nb]; exact e⟩⟩ (fun b q => .inl q) _ _ h
theorem RelD.updO {O : Addr → Prop} {a : Addr} {o nw : HO} {ds : D} {vs : V} (h : RelD G pn O H ds vs) (ha : O a) (hH : H a = some o) (ho : Thing o) : RelD G pn O (upd H a nw) ds vs := by
  obtain ⟨v, r, e, h1, _⟩ := RelDs.updO (nw := nw) (RelDs.cons h (show RelDs G pn O H [] [] from rfl)) ha hH ho
  cases e
  exact h1
theorem setK_ok {O : Addr → Prop} {k : Str} {d : D} {v : V} : ∀ {ks ws : List D} {kvs : List (Key × V)}, RelDs G pn O H ks (kvs.map fun p => kV p.1) → RelDs G pn O H ws (kvs.map (·.2)) → RelD G pn O H d v →
    RelDs G pn O H (setK k d ks ws).1 ((putK kvs (.inr k) v).map fun p => kV p.1) ∧ RelDs G pn O H (setK k d ks ws).2 ((putK kvs (.inr k) v).map (·.2)) := by
  intro ks ws kvs h1 h2 h3
  have is : ∀ {x : D} {p : Key}, RelD G pn O H x (kV p) → isKey k x = decide (p = .inr k) := by
    intro x p h
    cases x with
    | str z =>
      have h : kV p = V.str z := h
      cases p with
      | inl i => cases h
      | inr y =>
        cases h
        show decide (z = k) = decide ((Sum.inr z : Key) = .inr k)
        by_cases e : z = k
        · subst e
          simp
        · have : (Sum.inr z : Key) ≠ .inr k := fun q => e (Sum.inr.inj q)
          rw [decide_eq_false e, decide_eq_false this]
    | int z =>
      have h : kV p = V.int z := h
      cases p with
      | inl i => simp [isKey]
      | inr y => cases h
    | non => cases p <;> cases (show kV _ = V.non from h)
    | bl _ => cases p <;> cases (show kV _ = V.bl _ from h)
    | tup _ => obtain ⟨_, _, e, _⟩ := h; cases p <;> cases e
    | lst _ _ => obtain ⟨_, _, _, e, _⟩ := h; cases p <;> cases e
    | scr _ => obtain ⟨_, _, e, _⟩ := h; cases p <;> cases e
    | dic _ _ _ => obtain ⟨_, _, _, e, _⟩ := h; cases p <;> cases e
    | ins _ _ _ => obtain ⟨_, _, _, _, _, e, _⟩ := h; cases p <;> cases e
    | fn _ => obtain ⟨_, e, _⟩ := h; cases p <;> cases e
    | exc _ _ => obtain ⟨_, _, _, _, e, _⟩ := h; cases p <;> cases e
  have any : ∀ {ks : List D} {kvs : List (Key × V)}, RelDs G pn O H ks (kvs.map fun p => kV p.1) → ks.any (isKey k) = kvs.any fun kv => decide (kv.1 = .inr k) := by
    intro ks
    induction ks with
    | nil =>
      intro kvs h
      cases kvs with
      | nil => rfl
      | cons p r => cases h
    | cons x xs ih =>
      intro kvs h
      cases kvs with
      | nil =>
        obtain ⟨_, _, e, _⟩ := h
        cases e
      | cons p r =>
        obtain ⟨u, w, e, h4, h5⟩ := h
        cases e
        rw [List.any_cons, List.any_cons, is h4, ih h5]
  unfold setK putK
  rw [any h1]
  split
  · refine ⟨?_, ?_⟩
    · have e : ((kvs.map fun kv => if kv.1 = .inr k then (kv.1, v) else kv).map fun p => kV p.1) = kvs.map fun p => kV p.1 := by
        rw [List.map_map]
        apply List.map_congr_left
        intro p _
        show kV (if p.1 = .inr k then (p.1, v) else p).1 = kV p.1
        split <;> rfl
      rw [e]
      exact h1
    · rename_i hany
      clear any hany
      induction kvs generalizing ks ws with
      | nil =>
        cases ks with
        | nil =>
          cases ws with
          | nil => rfl
          | cons _ _ => obtain ⟨_, _, e, _⟩ := h2; cases e
        | cons _ _ => obtain ⟨_, _, e, _⟩ := h1; cases e
      | cons p r ih =>
        cases ks with
        | nil => cases h1
        | cons x xs =>
          cases ws with
          | nil => cases h2
          | cons y ys =>
            obtain ⟨_, _, e1, h4, h5⟩ := h1
            obtain ⟨_, _, e2, h6, h7⟩ := h2
            cases e1
            cases e2
            have t := ih h5 h7
            rw [List.zipWith_cons_cons, List.map_cons, List.map_cons, is h4]
            refine .cons ?_ t
            by_cases e : p.1 = .inr k
            · rw [if_pos e, decide_eq_true e]
              exact h3
            · rw [if_neg e, decide_eq_false e]
              exact h6
  · rw [List.map_append, List.map_append]
    exact ⟨RelDs.append h1 (.cons (show RelD G pn O H (.str k) (kV (.inr k)) from rfl) rfl), RelDs.append h2 (.cons h3 rfl)⟩
/-- the slot's list, in place -/
theorem own_lst {i : Nat} {xs : List D} (s : StOk G pn N H ρ σ) (h : rdS ρ i = some (.lst true xs)) : ∃ a vs, σ[i]? = some (some (.ref a)) ∧ H a = some (.lst vs) ∧ RelDs G pn (Oo N.Of ρ σ) H xs vs ∧ Oo N.Of ρ σ a := by
  obtain ⟨v, h1, ⟨a, vs, rfl, h2, h3⟩, _⟩ := s.S.rel i _ h
  exact ⟨a, vs, h1, h2, h3, .inr ⟨i, by rw [ownAt_some h]; rfl, h1⟩⟩
/-! ### x op= e of ints -/
def augOp : Pr → Option Operator
  | .add => some .Add
  | .sub => some .Sub
  | .mul => some .Mult
  | .fdiv => some .FloorDiv
  | .mod => some .Mod
  | _ => none
theorem imul_wide {i j : Int} {x y : V} {v u : Value} {pins : List (Addr × Obj)} {s : Shared} {Q : VK} (I : L2.Inv X pins σ H s) (r1 : RelV x v) (r2 : RelV y u) (e1 : x = .int i) (e2 : y = .int j) (h : CMulW i j) (q : Q (.int (i * j)) H) : wpAny (model X.prog X.w) X.A (inplaceOp .Mult v u) (EP X pins σ Q) X.xe s := by
  subst e1 e2
  obtain ⟨t, rfl⟩ := r1
  obtain ⟨t', rfl⟩ := r2
  exact imul_int ⟨.int _, H, I.tok _, ⟨_, rfl⟩, q⟩ h.ok
theorem ip_pr {p : Pr} {op : Operator} (hp : augOp p = some op) (hq : p = .add ∨ p = .sub ∨ p = .mul) : PIp X op fun x y H Q => ∃ (i j r : Int), x = .int i ∧ y = .int j ∧ pr G.T p [.int i, .int j] = some (.int r) ∧ Q (.int r) H := by
  intro pins s σ H x y v u Q I r1 r2 ⟨i, j, r, e1, e2, e3, q⟩
  rcases hq with rfl | rfl | rfl
  · cases hp
    have e4 : r = i + j := by
      cases e3
      rfl
    subst e4
    exact ip_add pins s σ H x y v u Q I r1 r2 ⟨i, j, e1, e2, q⟩
  · cases hp
    have e4 : r = i - j := by
      cases e3
      rfl
    subst e4
    exact ip_sub pins s σ H x y v u Q I r1 r2 ⟨i, j, e1, e2, q⟩
  · cases hp
    have e3' : (if mulOk i j then some (D.int (i * j)) else none) = some (.int r) := e3
    split at e3'
    · rename_i hm
      cases e3'
      exact imul_wide I r1 r2 e1 e2 (show CMulW i j from of_decide_eq_true (p := i.natAbs.log2 + j.natAbs.log2 < 1000000) hm) q
    · cases e3'
theorem s_aug {x : Str} {p' : Pos} {i : Nat} {e : Expr} {c : CE} {p : Pr} {op : Operator} (hT : C.T = G.T) (hp : augOp p = some op) (hq : p = .add ∨ p = .sub ∨ p = .mul) (hN : X.N.Nodup) (hi : X.N[i]? = some x) (hx : Loc X.env.scope x) (hf : X.fn x = true ∨ X.env.scope.names.lookup x = some .local) (hn : i ∉ N.fix) (he : DE X G pn W e (ev C c)) :
    DS X G pn W N (.AugAssign (.Name x p') op e pos) (run C (.aug i p c)) :=
  PS.imp (ps_aug hN hi hx he (ip_pr (G := G) hp hq) hf) fun D σ H ⟨ρ, s, h⟩ => by
    unfold run at h
    cases e0 : rdS ρ i with
    | none => simp only [e0] at h; exact (show False from h).elim
    | some o =>
      simp only [e0] at h
      have hl : i < ρ.length := by
        rw [rdS_some] at e0
        exact (List.getElem?_eq_some_iff.mp e0).1
      cases o with
      | int a =>
        simp only at h
        obtain ⟨v, h1, h2, _⟩ := s.S.rel i _ e0
        cases (show v = .int a from h2)
        refine ⟨.int a, h1, N.Of, ρ, s.S, PostG.mono (es_bind s h) fun v H1 ⟨d, ρ1, _, s1, so, _, r, q⟩ => ?_⟩
        cases d with
        | int b =>
          simp only at q
          rw [hT] at q
          cases e1 : pr G.T p [.int a, .int b] with
          | none => simp only [e1] at q; exact (show False from q).elim
          | some z =>
            cases z with
            | int k =>
              simp only [e1] at q
              have hl1 : i < ρ1.length := by rw [s1.S.len, ← s.S.len]; exact hl
              exact ⟨a, b, k, rfl, r.1 rfl, e1, q _ H1 (s1.put (.of (show RelD G pn _ H1 (.int k) (.int k) from rfl)) hl1 hn)⟩
            | _ => simp only [e1] at q; exact (show False from q).elim
        | _ => exact (show False from q).elim
      | _ => exact (show False from h).elim
/-! ### x[k] = e, x.append(e), x.extend(e) -/
theorem setSlot_post {i : Nat} {o : Option D} {D' : Ends} (h : PostS G pn W N (setSlot ρ i o) D') : ∃ d, o = some d ∧ PostS G pn W N (.ok .nx (ρ.set i (some d))) D' := by
  cases o with
  | none => exact (show False from h).elim
  | some d => exact ⟨d, rfl, h⟩
theorem slot_val {i : Nat} {x : Str} {p : Pos} (hN : X.N[i]? = some x) (hv : Vis X.env.scope x) (hd : (x == ("__debug__" : Str)) = false) (hcd : (x == ("__classdict__" : Str)) = false) : PE X (.Name x p) (tVar i) := pe_var hN hv hd hcd
theorem key_str {O : Addr → Prop} {d : D} {v : V} {k : Str} (h : RelD G pn O H d v) (e : d = .str k) : v = .str k := by
  subst e
  exact h
theorem setI_ok {O : Addr → Prop} {o k d o' : D} {a : Addr} {kv v : V} {Q : Hp → Prop} (ha : O a) (hb : BodyR G pn O H o (.ref a)) (hk : RelD G pn O H k kv) (hv : RelD G pn O H d v) (e : setItemD o k d = some o')
    (q : ∀ nw, Thing nw → BodyR G pn O (upd H a nw) o' (.ref a) → Q (upd H a nw)) : (rSetL (.ref a) kv v H Q ∨ rSetD (.ref a) kv v H Q) ∧ o'.own = true ∧ o.own = true := by
  unfold setItemD at e
  split at e
  · rename_i xs i
    obtain ⟨b, vs, eb, h1, h2⟩ := hb
    cases eb
    cases (show kv = .int i from hk)
    cases ej : L2.ixN xs.length i with
    | none => rw [ej] at e; cases e
    | some j =>
      rw [ej] at e
      cases e
      have ej' : L2.ixN vs.length i = some j := by rw [h2.length]; exact ej
      exact ⟨.inl ⟨a, vs, i, j, rfl, rfl, h1, ej', q _ trivial ⟨a, _, rfl, upd_same, (RelDs.set j h2 hv).updO ha h1 trivial⟩⟩, rfl, rfl⟩
  · rename_i ks ws k'
    split at e
    · rename_i hz
      cases e
      obtain ⟨b, kvs, eb, h1, h2, h3⟩ := hb
      cases eb
      cases (show kv = .str k' from hk)
      have hlen : kvs.length = ks.length := by
        have := h2.length
        rw [List.length_map] at this
        exact this
      have hlen2 : kvs.length = ws.length := by
        have := h3.length
        rw [List.length_map] at this
        exact this
      refine ⟨.inr ⟨a, _, rfl, .inl ⟨kvs, .inr k', h1, rfl, by rw [hlen, sizeLine_eq]; omega, rfl⟩, q _ trivial ?_⟩, rfl, rfl⟩
      have hset := setK_ok (d := d) (v := v) (k := k') h2 h3 hv
      exact ⟨a, _, rfl, upd_same, hset.1.updO ha h1 trivial, hset.2.updO ha h1 trivial⟩
    · cases e
  · cases e
theorem s_setI {x : Str} {p1 p2 : Pos} {i : Nat} {ke e : Expr} {kc c : CE} (hu : X.A.units + 1 < cLine) (hi : X.N[i]? = some x) (hv : Vis X.env.scope x) (hd : (x == ("__debug__" : Str)) = false) (hcd : (x == ("__classdict__" : Str)) = false) (hk : DE X G pn W ke (ev C kc)) (he : DE X G pn W e (ev C c))
    (ha : ∀ v, assign (.Subscript (.Name x p1) ke p2) X.env v = (do
      let ov ← holding [v] (eval (.Name x p1) X.env)
      let iv ← holding [v, ov] (eval ke X.env)
      standAt p2
      holding [v, ov, iv] (setItem ov iv v)
      release [v, ov, iv] []))
    (hs : swapsWithSole [.Subscript (.Name x p1) ke p2] e pos.line X.env = pure false) (hw : swappedStores [.Subscript (.Name x p1) ke p2] e X.env = pure none) (h1 : (assignEach [.Subscript (.Name x p1) ke p2] X.env).map (·.2) = [assign (.Subscript (.Name x p1) ke p2) X.env]) :
    DS X G pn W N (.Assign [.Subscript (.Name x p1) ke p2] e pos) (run C (.setI i kc c)) := by
  have hset : PSet X fun o i v H Q => rSetL o i v H Q ∨ rSetD o i v H Q := fun pins s σ H o i v ov iv u Q I r1 r2 r3 h => h.elim (set_list pins s σ H o i v ov iv u Q I r1 r2 r3) (set_dict hu pins s σ H o i v ov iv u Q I r1 r2 r3)
  refine PS.imp (ps_asg he (pg_sub (slot_val hi hv hd hcd) hk hset ha) hs hw h1) fun D σ H ⟨ρ, s, h⟩ => ?_
  unfold run at h
  refine ⟨N.Of, ρ, s.S, PostG.mono (es_bind s h) fun v H1 ⟨d, ρ1, _, s1, so, _, r, q⟩ => ?_⟩
  have f1 := (s.hand r).fr s1
  cases ow : ownAt ρ1 i with
  | false => rw [ow] at q; exact (show False from q).elim
  | true =>
    rw [ow] at q
    obtain ⟨o1, e1, e2⟩ := ownAt_true ow
    obtain ⟨w, e3, e4, _⟩ := s1.S.rel i o1 e1
    obtain ⟨a, rfl⟩ := e4.ref e2
    refine ⟨.ref a, e3, N.Of, ρ1, s1.S, PostG.mono (es_bind s1 q) fun kv H2 ⟨kd, ρ2, _, s2, so2, kp2, r2, q2⟩ => ?_⟩
    have f2 := (s1.hand r2).fr s2
    have f1' := f1.step kp2 so2
    obtain ⟨o', e5, q3⟩ := setSlot_post q2
    cases e6 : rdS ρ2 i with
    | none => rw [e6] at e5; cases e5
    | some o2 =>
      rw [e6] at e5
      obtain ⟨w2, e7, e8, _⟩ := s2.S.rel i o2 e6
      rw [e3] at e7
      cases e7
      have ho2 : o2.own = true := by
        have := so2 i
        rw [ow, ownAt_some e6] at this
        exact this
      have e5' : setItemD o2 kd.fr d.fr = some o' := e5
      have hO : Oo N.Of ρ2 σ a := .inr ⟨i, by rw [ownAt_some e6]; exact ho2, e3⟩
      have ho' : o'.own = true := by
        unfold setItemD at e5'
        split at e5'
        · cases ej : L2.ixN _ _ with
          | none => rw [ej] at e5'; cases e5'
          | some j =>
            rw [ej] at e5'
            cases e5'
            rfl
        · split at e5'
          · cases e5'
            rfl
          · cases e5'
        · cases e5'
      exact (setI_ok (Q := fun H4 => D.nx σ H4) hO e8 f2 f1' e5' fun nw nt hb => q3 σ _ (s2.mut e6 ho2 e3 ho' nt hb)).1
theorem app_len : (sizeLine : Nat) = 16777216 := sizeLine_eq
theorem s_app {x : Str} {p1 ap cp : Pos} {i : Nat} {e : Expr} {c : CE} (hi : X.N[i]? = some x) (hv : Vis X.env.scope x) (hd : (x == ("__debug__" : Str)) = false) (hcd : (x == ("__classdict__" : Str)) = false) (he : DAs X G pn W [e] (evs C (.cons (.ex c) .nil)))
    (hline : (ap.endLine == cp.line) = true) (hfew : ((backTo cp (starEach [e] X.env)).all (fun x => !x.1) && (backToKw cp (keywordEach [] X.env)).all (fun x => x.1.isSome)
      && decide ([e].length + ([] : List Keyword).length + (if ([] : List Keyword).isEmpty then 0 else 1) < 30)) = true)
    (hs : starEach [e] X.env = (false, eval e X.env) :: starEach [] X.env) (hsw : swapsWith (.Call (.Attribute (.Name x p1) "append" ap) [e] [] cp) none pos.line X.env = pure false) :
    DS X G pn W N (.Expr (.Call (.Attribute (.Name x p1) "append" ap) [e] [] cp) pos) (run C (.app i c)) := by
  refine PS.imp (ps_expr (pe_bm PySem.F.plainAttrs_list PySem.F.slot_list_append PySem.F.type_list_append mt_append (slot_val hi hv hd hcd) he rfl hfew hline hs rfl) hsw) fun D σ H ⟨ρ, s, h⟩ => ?_
  unfold run at h
  cases il : isLst ρ i with
  | false => rw [il] at h; exact (show False from h).elim
  | true =>
    rw [il] at h
    have e0 : ∃ xs, rdS ρ i = some (.lst true xs) := by
      unfold isLst at il
      split at il
      · exact ⟨_, ‹_›⟩
      · cases il
    obtain ⟨xs, e0⟩ := e0
    obtain ⟨a, vs, e1, e2, _, _⟩ := own_lst s e0
    refine ⟨.ref a, e1, .inl ⟨rfl, vs, SqL.of e2⟩, N.Of, ρ, s.S, ?_⟩
    have hp : PostS G pn W N (bd (evs C (.cons (.ex c) .nil)) (fun as ρ => match as with | [.d d] => setSlot ρ i ((rdS ρ i).bind fun o => appD o d) | _ => .stuck) ρ) D := by
      have ee : bd (evs C (.cons (.ex c) .nil)) (fun as ρ => match as with | [.d d] => setSlot ρ i ((rdS ρ i).bind fun o => appD o d) | _ => .stuck) ρ = bd (ev C c) (fun d ρ => setSlot ρ i ((rdS ρ i).bind fun o => appD o d.fr)) ρ := by
        unfold bd evs eva
        simp only [bd]
        cases ev C c ρ <;> simp [evs]
      rw [ee]
      exact h
    refine PostG.mono (es_bind s hp) fun us H1 ⟨as, ρ1, _, s1, so, _, r, q⟩ => ?_
    have shape : ∃ d u, as = [.d d] ∧ us = [u] ∧ RelD G pn (Oo N.Of ρ1 σ) H1 d u := by
      cases as with
      | nil => exact (show False from q).elim
      | cons y ys =>
        cases ys with
        | nil =>
          cases r with
          | cons r1 r2 =>
            cases r2
            cases y with
            | d d => exact ⟨d, _, rfl, rfl, r1⟩
            | b i => exact (show False from q).elim
            | io i => exact (show False from q).elim
        | cons z zs => cases y <;> exact (show False from q).elim
    obtain ⟨d, u, rfl, rfl, rr⟩ := shape
    obtain ⟨o', e5, q3⟩ := setSlot_post q
    cases e6 : rdS ρ1 i with
    | none => rw [e6] at e5; cases e5
    | some o2 =>
      rw [e6] at e5
      have e5' : appD o2 d = some o' := e5
      unfold appD at e5'
      split at e5'
      · rename_i ys
        split at e5'
        · rename_i hz
          cases e5'
          obtain ⟨b, ws, f1, f2, f3, f4⟩ := own_lst s1 e6
          rw [e1] at f1
          cases f1
          refine ⟨a, ws, u, rfl, rfl, f2, by rw [f3.length, sizeLine_eq]; exact hz, ?_⟩
          exact q3 σ _ (s1.mut e6 rfl e1 rfl trivial ⟨a, _, rfl, upd_same, RelDs.append (f3.updO f4 f2 trivial) (.cons (rr.updO f4 f2 trivial) rfl)⟩)
        · cases e5'
      · cases e5'
end
end PI
/-! PI, part m: loops. -/
namespace PI
open PySem PySem.Spec L2 PyProof.Rows
section
variable {X : Cx} {G : Txt} {pn : List (Addr × Obj)} {W : WX} {C : Ctx} {pos : Pos} {N : Ent} {H H1 H' : Hp} {ρ ρ1 ρ' : Env} {σ σ1 σ' : L2.St}
/-- the state as an entry of its own; the slots at fx keep what they hold -/
def Ent.at (N : Ent) (H : Hp) (ρ : Env) (σ : L2.St) (fx : List Nat) : Ent := ⟨Lo ρ σ, H, fx ++ N.fix, σ, N.Of⟩
theorem StOk.rebase (s : StOk G pn N H ρ σ) (fx : List Nat) : StOk G pn (N.at H ρ σ fx) H ρ σ where
  S := s.S
  kp := Kp.refl
  lo := fun a q => .inl q
  fx := fun _ _ => rfl
  th := fun a q z => by
    obtain ⟨o, e, _⟩ := s.S.lot q
    rw [z] at e
    cases e
  ol := s.S.dis
  oh := fun a q z => by
    obtain ⟨o, e, _⟩ := s.S.oft a q
    rw [show H a = none from z] at e
    cases e
theorem StOk.unbase {fx : List Nat} (s : StOk G pn N H1 ρ1 σ1) (t : StOk G pn (N.at H1 ρ1 σ1 fx) H ρ σ) : StOk G pn N H ρ σ where
  S := t.S
  kp := ⟨fun b o e n z => t.kp.keep b o (s.kp.keep b o e n z) (fun q => (s.lo b q).elim n fun y => by rw [e] at y; cases y) z, fun b ps e => by
    obtain ⟨ps', e'⟩ := s.kp.tb b ps e
    exact t.kp.tb b ps' e'⟩
  lo := fun a q => (t.lo a q).elim (s.lo a) fun z => .inr (s.back z)
  fx := fun i hi => (t.fx i (List.mem_append_right _ hi)).trans (s.fx i hi)
  th := fun a q z => by
    by_cases l : Lo ρ1 σ1 a
    · exact t.th a l z
    · cases e : H1 a with
      | none => exact s.th a q e
      | some o =>
        by_cases tb : ∀ ps, o ≠ .tbl ps
        · rw [t.kp.keep a o e l tb] at z
          cases z
        · have t' : ∃ ps, o = .tbl ps := Classical.byContradiction fun z => tb fun ps e => z ⟨ps, e⟩
          obtain ⟨ps, rfl⟩ := t'
          obtain ⟨ps', e'⟩ := t.kp.tb a ps e
          rw [z] at e'
          cases e'
  ol := s.ol
  oh := s.oh
theorem RtR.unbase {fx : List Nat} {d : D} {v : V} (s : StOk G pn N H1 ρ1 σ1) (r : RtR G pn (N.at H1 ρ1 σ1 fx) ρ σ H d v) : RtR G pn N ρ σ H d v := ⟨r.1, fun z => by
  obtain ⟨a, e, h1, h2⟩ := r.2 z
  exact ⟨a, e, h1.elim (s.lo a) fun z => .inr (s.back z), h2⟩⟩
theorem PostS.rebase {fx : List Nat} {o : Out Fl} {D : Ends} (s : StOk G pn N H1 ρ1 σ1) (h : PostS G pn W N o D) : PostS G pn W (N.at H1 ρ1 σ1 fx) o D := by
  cases o with
  | stuck => exact h
  | exc e ρ' => exact fun σ' H' cls dd t r => h σ' H' cls dd (s.unbase t) r
  | ok f ρ' =>
    cases f with
    | nx => exact fun σ' H' t => h σ' H' (s.unbase t)
    | bk => exact fun σ' H' t => h σ' H' (s.unbase t)
    | ct => exact fun σ' H' t => h σ' H' (s.unbase t)
    | rt d => exact fun v σ' H' t r => h v σ' H' (s.unbase t) (r.unbase s)
/-! ### while -/
theorem whileF_succ {c : Env → Out Bool} {b : Env → Out Fl} {n : Nat} : whileF c b (n + 1) ρ = bd c (fun t ρ1 => if t then (match b ρ1 with
      | .ok .nx ρ2 => whileF c b n ρ2
      | .ok .ct ρ2 => whileF c b n ρ2
      | .ok .bk ρ2 => .ok .nx ρ2
      | .ok (.rt v) ρ2 => .ok (.rt v) ρ2
      | .exc e ρ2 => .exc e ρ2
      | .stuck => .stuck) else .ok .nx ρ1) ρ := by
  rw [whileF]
  unfold bd
  cases c ρ with
  | stuck => rfl
  | exc _ _ => rfl
  | ok t ρ1 => cases t <;> rfl
theorem s_while {c : Expr} {body : List Stmt} {t : CE} {b : CSs} (hp : PassesOwn (model X.prog X.w) X.A X.env X.xe) (hc : DT X G pn W c (truM (ev C t))) (hb : DSs X G pn W N body (runs C b)) : DS X G pn W N (.While c body [] pos) (run C (.whl t b)) := by
  refine PS.imp (ps_while hp hc hb) fun D σ H ⟨ρ, s, h⟩ => ?_
  unfold run whileD at h
  split at h
  · rename_i hx
    refine ⟨fun m σ H => ∃ ρ, StOk G pn N H ρ σ ∧ PostS G pn W N (whileF (truM (ev C t)) (runs C b) m ρ) D, ⟨_, ρ, s, h⟩, ?_⟩
    rintro m σ H ⟨ρ, s, h⟩
    cases m with
    | zero => exact (show False from h).elim
    | succ m =>
      rw [whileF_succ] at h
      refine ⟨N.Of, ρ, s.S, PostG.mono (es_bind s h) fun k H1 ⟨k', ρ1, _, s1, _, _, r, q⟩ => ?_⟩
      have e' : k = k' := r
      subst e'
      cases k with
      | false => exact q σ H1 s1
      | true =>
        refine ⟨fun σ' H' => ∃ ρ, StOk G pn N H' ρ σ' ∧ PostS G pn W N (whileF (truM (ev C t)) (runs C b) m ρ) D, fun σ' H' z => ⟨m, Nat.lt_succ_self m, z⟩, ρ1, s1, ?_⟩
        simp only [if_true] at q
        cases e : runs C b ρ1 with
        | stuck => rw [e] at q; exact q
        | exc x ρ2 => rw [e] at q; exact q
        | ok f ρ2 =>
          rw [e] at q
          cases f with
          | nx => exact fun σ' H' s' => ⟨ρ2, s', q⟩
          | ct => exact fun σ' H' s' => ⟨ρ2, s', q⟩
          | bk => exact q
          | rt d => exact q
  · exact (show False from h).elim
/-! ### what is walked -/
def borsOf : List Ar → List Nat
  | [] => []
  | .b i :: r => i :: borsOf r
  | _ :: r => borsOf r
/-- the iterator J gives ds -/
def JFacts (G : Txt) (pn : List (Addr × Obj)) (O : Addr → Prop) (H : Hp) (J : It) (ds : List D) : Prop :=
  (∀ (i : Nat) (d : D), ds[i]? = some d → J.go i H ∧ ∀ x H', J.yld i H x H' → Ext H H' ∧ RelD G pn O H' d x) ∧ J.stop ds.length H
/-- .. in every later state in which what was lent stands as it stood -/
def SrcR (G : Txt) (pn : List (Addr × Obj)) : RT (List Ar × List D) It := fun Of ρ σ _ H p J =>
  ∀ (Of2 : Addr → Prop) (ρ2 : Env) (σ2 : L2.St) (H2 : Hp), (∀ b, Of2 b → Of b ∨ H b = none) → SR G pn Of2 H2 ρ2 σ2 → Kp (Lo ρ σ) H H2 → (∀ b, Lo ρ2 σ2 b → Lo ρ σ b ∨ H b = none) → (∀ i ∈ borsOf p.1, σ2[i]? = σ[i]?) → sameB ρ p.1 ρ2 = true → JFacts G pn (Oo Of2 ρ2 σ2) H2 J p.2
theorem back_src : BackR (SrcR G pn) := fun _ _ _ _ _ _ _ _ _ h => h
noncomputable def srcM (C : Ctx) (cs : CEs) (w : Wk) : Env → Out (List Ar × List D) := bd (evs C cs) fun as ρ => ofO (((ard ρ as).bind (walkD w)).map fun ds => (as, ds)) ρ
def DI (X : Cx) (G : Txt) (pn : List (Addr × Obj)) (W : WX) (tg iter : Expr) (f : Env → Out (List Ar × List D)) : Prop := PI X tg iter (tG G pn W (SrcR G pn) f)
theorem sameB_get {ρ0 : Env} : ∀ {as : List Ar} {i : Nat}, sameB ρ0 as ρ = true → i ∈ borsOf as → rdS ρ i = rdS ρ0 i
  | [], _, _, h => by cases h
  | .d _ :: as, i, e, h => sameB_get (as := as) e h
  | .io _ :: as, i, e, h => sameB_get (as := as) e h
  | .b j :: as, i, e, h => by
    unfold sameB at e
    rw [Bool.and_eq_true] at e
    rcases List.mem_cons.mp h with h | h
    · subst h
      simpa using e.1
    · exact sameB_get e.2 h
/-- what was read reads the same in a later state -/
theorem src_later {Of Of2 : Addr → Prop} {H2 : Hp} {ρ2 : Env} {σ2 : L2.St} (no : ∀ b, Of2 b → Of b ∨ H b = none) (S2 : SR G pn Of2 H2 ρ2 σ2) (kp : Kp (Lo ρ σ) H H2) (lo : ∀ b, Lo ρ2 σ2 b → Lo ρ σ b ∨ H b = none) : ∀ {as : List Ar} {vs : List V} {ds : List D} {H0 : Hp}, ArsR G pn Of ρ σ H0 H as vs → ard ρ as = some ds → (∀ i ∈ borsOf as, σ2[i]? = σ[i]?) → sameB ρ as ρ2 = true →
    Paired (BodyR G pn (Oo Of2 ρ2 σ2) H2) ds vs
  | [], _, ds, _, .nil, e, _, _ => by
    cases e
    exact .nil
  | .d x :: as, _, ds, _, .cons r t, e, f, b => by
    unfold ard at e
    cases q : ard ρ as with
    | none => rw [q] at e; cases e
    | some ds' =>
      rw [q] at e
      cases e
      refine .cons (RelD.body ?_) (src_later no S2 kp lo t q f b)
      exact RelD.mono (kp.mono fun b q => .inr q) (fun b q => q.elim (fun z => (no b z).imp .inl id) fun z => (lo b z).imp .inr id) _ _ (show RelD G pn (Oo Of ρ σ) H x _ from r)
  | .b i :: as, _, ds, _, .cons r t, e, f, b => by
    unfold ard at e
    cases p : rdS ρ i with
    | none => rw [p] at e; cases e
    | some d =>
      simp only [p] at e
      cases q : ard ρ as with
      | none => rw [q] at e; cases e
      | some ds' =>
        rw [q] at e
        cases e
        have b' : rdS ρ2 i = rdS ρ i ∧ sameB ρ as ρ2 = true := by
          unfold sameB at b
          rw [Bool.and_eq_true] at b
          exact ⟨by simpa using b.1, b.2⟩
        refine .cons ?_ (src_later no S2 kp lo t q (fun j hj => f j (List.mem_cons_of_mem _ hj)) b'.2)
        obtain ⟨w, h1, h2, _⟩ := S2.rel i d (by rw [b'.1, p])
        have r' : σ[i]? = some (some _) := r
        rw [f i (List.mem_cons_self ..), r'] at h1
        cases h1
        exact h2.fr
  | .io i :: as, _, ds, _, _, e, _, _ => by
    unfold ard at e
    cases e
/-- for -/
theorem s_for {tg iter : Expr} {body : List Stmt} {t : Tg} {w : Wk} {cs : CEs} {b : CSs} {fxs : List Nat} (hp : PassesOwn (model X.prog X.w) X.A X.env X.xe) (hc : X.calm = true) (hi : DI X G pn W tg iter (srcM C cs w))
    (hg : ∀ N' : Ent, N'.fix = fxs ++ N.fix → DG X G pn N' tg t) (hb : ∀ N' : Ent, N'.fix = fxs ++ N.fix → DSs X G pn W N' body (runs C b)) (hfx : ∀ {ρ ρ' : Env} {as : List Ar}, evs C cs ρ = .ok as ρ' → ∀ i ∈ borsOf as, i ∈ fxs)
    (hs : ∀ x, foldedSetIterable iter X.env x = pure x) : DS X G pn W N (.For tg iter body [] pos) (run C (.for t w cs b)) := by
  refine ⟨fun pins sh σ H Dn I ⟨ρ, s, h⟩ => ?_⟩
  have e0 : run C (.for t w cs b) ρ = bd (srcM C cs w) (fun p ρ => forL (sameB ρ p.1) (asgT t) (runs C b) p.2 ρ) ρ := by
    unfold run srcM bd
    cases evs C cs ρ with
    | stuck => rfl
    | exc _ _ => rfl
    | ok as ρ1 =>
      simp only
      cases (ard ρ1 as).bind (walkD w) <;> rfl
  rw [e0] at h
  -- the entry of the loop is told where the iterator has come
  have hi' := hi
  have go : ∀ (J : It) (p : List Ar × List D) (H1 : Hp) (ρ1 : Env), srcM C cs w ρ = .ok p ρ1 → StOk G pn N H1 ρ1 σ → SrcR G pn N.Of ρ1 σ H H1 p J → PostS G pn W N (forL (sameB ρ1 p.1) (asgT t) (runs C b) p.2 ρ1) Dn →
      ∃ W' : Nat → Nat → L2.St → Hp → Prop, (∃ m, W' 0 m σ H1) ∧ ∀ i m σ H, W' i m σ H → (J.stop i H ∧ Dn.nx σ H) ∨ (J.go i H ∧ ∃ Nn : L2.St → Hp → Prop, (∀ σ' H', Nn σ' H' → ∃ m', m' < m ∧ W' (i + 1) m' σ' H') ∧ ∀ x H', J.yld i H x H' →
        (fun v σ H Q => ∃ (Na : Ent) (ρ : Env) (d : D) (ρ' : Env), Na.fix = fxs ++ N.fix ∧ StOk G pn Na H ρ σ ∧ RtR G pn Na ρ σ H d v ∧ asgT t d ρ = some ρ' ∧ ∀ σ', StOk G pn Na H ρ' σ' → Q σ' H) x σ H' fun σ2 H2 =>
          (fun (D' : Ends) σ H => ∃ Na : Ent, Na.fix = fxs ++ N.fix ∧ tS G pn W Na (runs C b) D' σ H) { Dn with nx := Nn, ct := Nn, bk := Dn.nx } σ2 H2) := by
    intro J p H1 ρ1 ep s1 src q
    have hbo : ∀ i ∈ borsOf p.1, i ∈ fxs := by
      unfold srcM bd at ep
      cases e : evs C cs ρ with
      | stuck => rw [e] at ep; cases ep
      | exc _ _ => rw [e] at ep; cases ep
      | ok as ρ2 =>
        rw [e] at ep
        simp only at ep
        cases e2 : (ard ρ2 as).bind (walkD w) with
        | none => rw [e2] at ep; cases ep
        | some ds =>
          rw [e2] at ep
          cases ep
          exact hfx e
    have q' := PostS.rebase (fx := fxs) s1 q
    refine ⟨fun i m σ2 H2 => ∃ ρ2, StOk G pn (N.at H1 ρ1 σ fxs) H2 ρ2 σ2 ∧ i ≤ p.2.length ∧ m = p.2.length - i ∧ PostS G pn W (N.at H1 ρ1 σ fxs) (forL (sameB ρ1 p.1) (asgT t) (runs C b) (p.2.drop i) ρ2) Dn, ⟨_, ρ1, s1.rebase fxs, Nat.zero_le _, rfl, q'⟩, ?_⟩
    rintro i m σ2 H2 ⟨ρ2, s2, hle, rfl, q2⟩
    have hs2 : sameB ρ1 p.1 ρ2 = true := by
      cases e : sameB ρ1 p.1 ρ2 with
      | true => rfl
      | false =>
        cases ed : p.2.drop i with
        | nil =>
          rw [ed] at q2
          unfold forL at q2
          rw [e] at q2
          exact (show False from q2).elim
        | cons d r =>
          rw [ed] at q2
          unfold forL at q2
          rw [e] at q2
          exact (show False from q2).elim
    have jf := src N.Of ρ2 σ2 H2 (fun b q => .inl q) s2.S s2.kp s2.lo (fun j hj => s2.fx j (List.mem_append_left _ (hbo j hj))) hs2
    by_cases hlt : i < p.2.length
    · have ed : p.2.drop i = p.2[i] :: p.2.drop (i + 1) := List.drop_eq_getElem_cons hlt
      rw [ed] at q2
      unfold forL at q2
      rw [if_pos hs2] at q2
      obtain ⟨g1, g2⟩ := jf.1 i p.2[i] (List.getElem?_eq_getElem hlt)
      refine .inr ⟨g1, fun σ' H' => ∃ ρ2, StOk G pn (N.at H1 ρ1 σ fxs) H' ρ2 σ' ∧ PostS G pn W (N.at H1 ρ1 σ fxs) (forL (sameB ρ1 p.1) (asgT t) (runs C b) (p.2.drop (i + 1)) ρ2) Dn, fun σ' H' ⟨ρ3, s3, q3⟩ => ⟨p.2.length - (i + 1), by omega, ρ3, s3, hlt, rfl, q3⟩, fun x H' y => ?_⟩
      obtain ⟨y1, y2⟩ := g2 x H' y
      have s2' : StOk G pn (N.at H1 ρ1 σ fxs) H' ρ2 σ2 := s2.step (Kp.same y1) (SameOwn.refl _) (s2.S.grow y1)
      cases ea : asgT t p.2[i] ρ2 with
      | none => rw [ea] at q2; exact (show False from q2).elim
      | some ρ3 =>
        rw [ea] at q2
        simp only at q2
        refine ⟨_, ρ2, p.2[i], ρ3, rfl, s2', .of y2, ea, fun σ3 s3 => ⟨_, rfl, ρ3, s3, ?_⟩⟩
        cases er : runs C b ρ3 with
        | stuck => rw [er] at q2; exact q2
        | exc e ρ4 => rw [er] at q2; exact q2
        | ok f ρ4 =>
          rw [er] at q2
          cases f with
          | nx => exact fun σ4 H4 s4 => ⟨ρ4, s4, q2⟩
          | ct => exact fun σ4 H4 s4 => ⟨ρ4, s4, q2⟩
          | bk => exact q2
          | rt d => exact q2
    · have e : i = p.2.length := by omega
      subst e
      refine .inl ⟨jf.2, ?_⟩
      rw [List.drop_length] at q2
      unfold forL at q2
      rw [if_pos hs2] at q2
      exact q2 σ2 H2 s2
  have hg' : PG X tg (fun v σ H Q => ∃ (Na : Ent) (ρ : Env) (d : D) (ρ' : Env), Na.fix = fxs ++ N.fix ∧ StOk G pn Na H ρ σ ∧ RtR G pn Na ρ σ H d v ∧ asgT t d ρ = some ρ' ∧ ∀ σ', StOk G pn Na H ρ' σ' → Q σ' H) :=
    ⟨fun pins s σ H v u Q I r ⟨Na, ρ, d, ρ', hN, h1, h2, h3, h4⟩ => (hg Na hN).run pins s σ H v u Q I r ⟨ρ, d, ρ', h1, h2, h3, fun σ' s' _ _ => h4 σ' s'⟩⟩
  have hb' : PSs X body (fun D σ H => ∃ Na : Ent, Na.fix = fxs ++ N.fix ∧ tS G pn W Na (runs C b) D σ H) := ⟨fun pins s σ H D I ⟨Na, hN, h⟩ => (hb Na hN).run pins s σ H D I h⟩
  refine (ps_for hp hc hi hg' hb' hs).run pins sh σ H Dn I ⟨N.Of, ρ, s.S, ?_⟩
  exact PostG.mono (es_bind (R := SrcR G pn) s h) fun J H1 ⟨p, ρ1, ep, s1, _, _, src, q⟩ => go J p H1 ρ1 ep s1 src q
end
end PI
/-! PI, part n: what is walked: sequences, ranges, zip. -/
namespace PI
open PySem PySem.Spec L2 PyProof.Rows RZ
section
variable {X : Cx} {G : Txt} {pn : List (Addr × Obj)} {W : WX} {C : Ctx} {pos : Pos} {H H1 H' : Hp} {ρ ρ1 ρ' : Env} {σ σ1 σ' : L2.St} {O : Addr → Prop} {tg : Expr}
theorem jf_list {a : Addr} {ds : List D} {vs : List V} (h : SqL X.K H a vs) (r : RelDs G pn O H ds vs) : JFacts G pn O H (Itl X.K a) ds := by
  refine ⟨fun i d e => ?_, vs, h, by rw [r.length]; exact Nat.le_refl _⟩
  obtain ⟨v, h1, h2⟩ := r.get e
  refine ⟨⟨vs, v, h, h1⟩, fun x H' y => ?_⟩
  obtain ⟨y1, y2⟩ := y
  subst y1
  refine ⟨Ext.refl _, ?_⟩
  have y3 := y2 vs h
  rw [h1] at y3
  cases y3
  exact h2
theorem jf_tup {a : Addr} {ds : List D} {vs : List V} (h : SqT X.K H a vs) (r : RelDs G pn O H ds vs) : JFacts G pn O H (Itt X.K a) ds := by
  refine ⟨fun i d e => ?_, vs, h, by rw [r.length]; exact Nat.le_refl _⟩
  obtain ⟨v, h1, h2⟩ := r.get e
  refine ⟨⟨vs, v, h, h1⟩, fun x H' y => ?_⟩
  obtain ⟨y1, y2⟩ := y
  subst y1
  refine ⟨Ext.refl _, ?_⟩
  have y3 := y2 vs h
  rw [h1] at y3
  cases y3
  exact h2
/-- a sequence's own items, by its kind -/
theorem seq_kind (hK : X.K = G.K) {d : D} {x : V} {ds : List D} (r : BodyR G pn O H d x) (e : seqD d = some ds) : ∃ l vs, x = .ref l ∧ ((isTup d = false ∧ SqL X.K H l vs) ∨ (isTup d = true ∧ SqT X.K H l vs)) ∧ RelDs G pn O H ds vs := by
  cases d with
  | tup xs =>
    cases e
    obtain ⟨l, vs, e0, h1, r1⟩ := bodyT hK r
    exact ⟨l, vs, e0, .inr ⟨rfl, h1⟩, r1⟩
  | lst o xs =>
    cases e
    obtain ⟨l, vs, e0, h1, r1⟩ := bodyL r
    exact ⟨l, vs, e0, .inl ⟨rfl, SqL.of h1⟩, r1⟩
  | scr ns =>
    cases e
    obtain ⟨l, o, e0, _, h1⟩ := r
    refine ⟨l, _, e0, .inl ⟨rfl, .inl (.inr ⟨o, h1⟩)⟩, ?_⟩
    clear h1
    induction ns with
    | nil => rfl
    | cons n ns ih => exact .cons (show RelD G pn O H (.int n) (.int n) from rfl) ih
  | _ => cases e
theorem i_seq {e : Expr} {x : CA} (hK : X.K = G.K) (he : DA X G pn W e (eva C x)) : DI X G pn W tg e (srcM C (.cons x .nil) .seq) := by
  refine ⟨fun pins s σ H R I ⟨Of, ρ, S, hp⟩ => ?_⟩
  have e0 : srcM C (.cons x .nil) .seq ρ = bd (eva C x) (fun a ρ => ofO (((ard ρ [a]).bind (walkD .seq)).map fun ds => ([a], ds)) ρ) ρ := by
    unfold srcM bd evs
    cases e : eva C x ρ <;> simp [bd, e, evs]
  rw [e0] at hp
  refine thn (he.run pins s σ H _ I ⟨Of, ρ, S, PostG.bind (R1 := ArR G pn) back_src hp⟩) fun v s1 ⟨w, H1, I1, r1, a, ρ1, _, _, _, S1, ra, q⟩ => ?_
  cases ed : ard ρ1 [a] with
  | none => rw [ed] at q; exact (show False from q).elim
  | some ds0 =>
    rw [ed] at q
    have hA : ArsR G pn Of ρ1 σ H1 H1 [a] [w] := .cons ra .nil
    have hb := ard_ok S1 hA ed
    obtain ⟨d, rfl, hd⟩ := pair1 hb
    cases es : seqD d with
    | none =>
      have : walkD .seq [d] = none := es
      rw [show (some [d]).bind (walkD .seq) = walkD .seq [d] from rfl, this] at q
      exact (show False from q).elim
    | some ds =>
      have e1 : walkD .seq [d] = some ds := es
      rw [show (some [d]).bind (walkD .seq) = walkD .seq [d] from rfl, e1] at q
      obtain ⟨l, vs, rfl, hk, hr⟩ := seq_kind hK hd es
      cases r1
      rcases hk with ⟨hk, hs⟩ | ⟨hk, hs⟩
      · obtain ⟨its, rv, p, hz⟩ := I1.list hs
        refine wpAny_pyIter_list p.isList (pi_one (tk := s1.toks) I1 _ (turn_list l _) ⟨_, Heap.get?_push_size _ rfl, rfl, rfl⟩ ?_)
        refine PostG.now (b := Itl X.K l) S1 ?_ q
        intro Of2 ρ2 σ2 H2 no S2 kp lo fx sm
        obtain ⟨d', e2, hd'⟩ := pair1 (src_later no S2 kp lo hA ed fx sm)
        cases e2
        obtain ⟨l', vs', e3, hk', hr'⟩ := seq_kind hK hd' es
        cases e3
        rcases hk' with ⟨_, h3⟩ | ⟨h3, _⟩
        · exact jf_list h3 hr'
        · rw [hk] at h3
          cases h3
      · obtain ⟨its, rv, p, hz⟩ := I1.tuple hs
        refine wpAny_pyIter_tuple (show s1.heap.IsTuple l its.toArray from p) (pi_one (tk := s1.toks) I1 _ (turn_tuple l _) ⟨_, Heap.get?_push_size _ rfl, rfl, rfl⟩ ?_)
        refine PostG.now (b := Itt X.K l) S1 ?_ q
        intro Of2 ρ2 σ2 H2 no S2 kp lo fx sm
        obtain ⟨d', e2, hd'⟩ := pair1 (src_later no S2 kp lo hA ed fx sm)
        cases e2
        obtain ⟨l', vs', e3, hk', hr'⟩ := seq_kind hK hd' es
        cases e3
        rcases hk' with ⟨h3, _⟩ | ⟨_, h3⟩
        · rw [hk] at h3
          cases h3
        · exact jf_tup h3 hr'
/-- arguments ahead of an iterator -/
theorem src_red {cs : CEs} {w : Wk} {R : It → Hp → Prop} (h : tG G pn W (SrcR G pn) (srcM C cs w) σ H R) : tG G pn W (ArsR G pn) (evs C cs) σ H fun vs H1 => ∃ (Of : Addr → Prop) (ρ1 : Env) (as : List Ar) (ds0 ds : List D), SR G pn Of H1 ρ1 σ ∧ ArsR G pn Of ρ1 σ H1 H1 as vs ∧ ard ρ1 as = some ds0 ∧ walkD w ds0 = some ds ∧
    ∀ J, SrcR G pn Of ρ1 σ H1 H1 (as, ds) J → R J H1 := by
  obtain ⟨Of, ρ, S, hp⟩ := h
  refine ⟨Of, ρ, S, PostG.mono (PostG.bind (R1 := ArsR G pn) back_src hp) fun vs H1 ⟨as, ρ1, _, _, _, S1, r, q⟩ => ?_⟩
  cases ed : ard ρ1 as with
  | none => rw [ed] at q; exact (show False from q).elim
  | some ds0 =>
    rw [ed] at q
    cases ew : walkD w ds0 with
    | none =>
      rw [show (some ds0).bind (walkD w) = walkD w ds0 from rfl, ew] at q
      exact (show False from q).elim
    | some ds =>
      rw [show (some ds0).bind (walkD w) = walkD w ds0 from rfl, ew] at q
      exact ⟨Of, ρ1, as, ds0, ds, S1, r, ed, ew, fun J src => PostG.now (b := J) S1 src q⟩
theorem PI.imp {tg iter : Expr} {t t' : TI} (h : L2.PI X tg iter t) (hi : ∀ σ H R, t' σ H R → t σ H R) : L2.PI X tg iter t' := ⟨fun pins s σ H R I hw => h.run pins s σ H R I (hi σ H R hw)⟩
theorem jf_range {lo : Int} {n : Nat} {H : Hp} : JFacts G pn O H (Itr lo n) ((List.range n).map fun k : Nat => .int (lo + (k : Int))) := by
  refine ⟨fun i d e => ?_, by rw [List.length_map, List.length_range]; exact Nat.le_refl n⟩
  rw [List.getElem?_map] at e
  have hi : i < n := by
    by_cases h : i < n
    · exact h
    · rw [List.getElem?_eq_none (by rw [List.length_range]; omega)] at e
      cases e
  rw [List.getElem?_range hi] at e
  cases e
  refine ⟨hi, fun x H' y => ?_⟩
  obtain ⟨y1, y2⟩ := y
  subst y1 y2
  exact ⟨Ext.refl _, rfl⟩
theorem jf_down {lo : Int} {n : Nat} {H : Hp} : JFacts G pn O H (Itc lo (-1) n) ((List.range n).map fun k : Nat => .int (lo + (k : Int) * (-1))) := by
  refine ⟨fun i d e => ?_, by rw [List.length_map, List.length_range]; exact Nat.le_refl n⟩
  rw [List.getElem?_map] at e
  have hi : i < n := by
    by_cases h : i < n
    · exact h
    · rw [List.getElem?_eq_none (by rw [List.length_range]; omega)] at e
      cases e
  rw [List.getElem?_range hi] at e
  cases e
  refine ⟨hi, fun x H' y => ?_⟩
  obtain ⟨y1, y2⟩ := y
  subst y1 y2
  exact ⟨Ext.refl _, rfl⟩
theorem ard_len : ∀ {as : List Ar} {ds : List D}, ard ρ as = some ds → ds.length = as.length
  | [], ds, e => by
    cases e
    rfl
  | .d x :: as, ds, e => by
    unfold ard at e
    cases q : ard ρ as with
    | none => rw [q] at e; cases e
    | some r =>
      rw [q] at e
      cases e
      simp [ard_len q]
  | .b i :: as, ds, e => by
    unfold ard at e
    split at e
    · cases q : ard ρ as with
      | none => rw [q] at e; cases e
      | some r =>
        rw [q] at e
        cases e
        simp [ard_len q]
    · cases e
  | .io i :: as, ds, e => by
    unfold ard at e
    cases e
/-- .. with how many they are -/
theorem src_red' {cs : CEs} {w : Wk} {R : It → Hp → Prop} (h : tG G pn W (SrcR G pn) (srcM C cs w) σ H R) : tG G pn W (ArsR G pn) (evs C cs) σ H fun vs H1 => ∃ (Of : Addr → Prop) (ρ1 : Env) (as : List Ar) (ds0 ds : List D), ds0.length = cs.len ∧ SR G pn Of H1 ρ1 σ ∧ ArsR G pn Of ρ1 σ H1 H1 as vs ∧ ard ρ1 as = some ds0 ∧ walkD w ds0 = some ds ∧
    ∀ J, SrcR G pn Of ρ1 σ H1 H1 (as, ds) J → R J H1 := by
  obtain ⟨Of, ρ, S, hp⟩ := h
  refine ⟨Of, ρ, S, PostG.mono (PostG.bind (R1 := ArsR G pn) back_src hp) fun vs H1 ⟨as, ρ1, ee, _, _, S1, r, q⟩ => ?_⟩
  cases ed : ard ρ1 as with
  | none => rw [ed] at q; exact (show False from q).elim
  | some ds0 =>
    rw [ed] at q
    cases ew : walkD w ds0 with
    | none =>
      rw [show (some ds0).bind (walkD w) = walkD w ds0 from rfl, ew] at q
      exact (show False from q).elim
    | some ds =>
      rw [show (some ds0).bind (walkD w) = walkD w ds0 from rfl, ew] at q
      exact ⟨Of, ρ1, as, ds0, ds, by rw [ard_len ed, evs_len ee], S1, r, ed, ew, fun J src => PostG.now (b := J) S1 src q⟩
theorem len1 {α : Type} {xs : List α} (h : xs.length = 1) : ∃ a, xs = [a] := by
  cases xs with
  | nil => cases h
  | cons a r =>
    cases r with
    | nil => exact ⟨a, rfl⟩
    | cons _ _ => simp at h
theorem len2 {α : Type} {xs : List α} (h : xs.length = 2) : ∃ a b, xs = [a, b] := by
  cases xs with
  | nil => cases h
  | cons a r =>
    obtain ⟨b, rfl⟩ := len1 (xs := r) (by simpa using h)
    exact ⟨a, b, rfl⟩
theorem len3 {α : Type} {xs : List α} (h : xs.length = 3) : ∃ a b c, xs = [a, b, c] := by
  cases xs with
  | nil => cases h
  | cons a r =>
    obtain ⟨b, c, rfl⟩ := len2 (xs := r) (by simpa using h)
    exact ⟨a, b, c, rfl⟩
theorem pairV1 {R : D → V → Prop} {a : D} {vs : List V} (h : Paired R [a] vs) : ∃ x, vs = [x] ∧ R a x := by
  cases h with
  | cons h1 h2 => cases h2; exact ⟨_, rfl, h1⟩
theorem pairV2 {R : D → V → Prop} {a b : D} {vs : List V} (h : Paired R [a, b] vs) : ∃ x y, vs = [x, y] ∧ R a x ∧ R b y := by
  cases h with
  | cons h1 h2 => obtain ⟨y, e, h3⟩ := pairV1 h2; subst e; exact ⟨_, y, rfl, h1, h3⟩
theorem pairV3 {R : D → V → Prop} {a b c : D} {vs : List V} (h : Paired R [a, b, c] vs) : ∃ x y z, vs = [x, y, z] ∧ R a x ∧ R b y ∧ R c z := by
  cases h with
  | cons h1 h2 => obtain ⟨y, z, e, h3, h4⟩ := pairV2 h2; subst e; exact ⟨_, y, z, rfl, h1, h3, h4⟩
theorem i_range1 {a : Expr} {cs : CEs} {p : Pos} (hl : cs.len = 1) (hg : Gl X "range") (hm : X.mg "range" = none) (ha : DAs X G pn W [a] (evs C cs)) (hs : starEach [a] X.env = [(false, eval a X.env)]) : DI X G pn W tg (.Call (.Name "range" p) [a] [] pos) (srcM C cs .range) :=
  PI.imp (pi_range1 hg hm ha hs) fun σ H R h => by
    obtain ⟨Of, ρ, S, hp⟩ := src_red' h
    refine ⟨Of, ρ, S, PostG.mono hp fun vs H1 ⟨Of', ρ1, as, ds0, ds, h0, S1, r, ed, ew, q⟩ => ?_⟩
    have hb := ard_ok S1 r ed
    obtain ⟨d, rfl⟩ := len1 (h0.trans hl)
    replace ew : rangeD [d] = some ds := ew
    unfold rangeD at ew
    split at ew
    · rename_i j ej
      cases ej
      split at ew
      · rename_i hj
        rw [Bool.and_eq_true, decide_eq_true_eq, decide_eq_true_eq] at hj
        cases ew
        obtain ⟨w, rfl, r1⟩ := pairV1 hb
        cases (show w = .int j from r1)
        exact ⟨j, rfl, hj.1, hj.2, q _ fun Of2 ρ2 σ2 H2 no S2 kp lo fx sm => jf_range⟩
      · cases ew
    · rename_i e1
      cases e1
    · rename_i e1
      cases e1
    · cases ew
theorem i_range2 {a b : Expr} {cs : CEs} {p : Pos} (hl : cs.len = 2) (hg : Gl X "range") (hm : X.mg "range" = none) (ha : DAs X G pn W [a, b] (evs C cs)) (hs : starEach [a, b] X.env = [(false, eval a X.env), (false, eval b X.env)]) (hs2 : starEach [b] X.env = [(false, eval b X.env)]) : DI X G pn W tg (.Call (.Name "range" p) [a, b] [] pos) (srcM C cs .range) :=
  PI.imp (pi_range2 hg hm ha hs hs2) fun σ H R h => by
    obtain ⟨Of, ρ, S, hp⟩ := src_red' h
    refine ⟨Of, ρ, S, PostG.mono hp fun vs H1 ⟨Of', ρ1, as, ds0, ds, h0, S1, r, ed, ew, q⟩ => ?_⟩
    have hb := ard_ok S1 r ed
    obtain ⟨d, d', rfl⟩ := len2 (h0.trans hl)
    replace ew : rangeD [d, d'] = some ds := ew
    unfold rangeD at ew
    split at ew
    · rename_i e1
      cases e1
    · rename_i i j ej
      cases ej
      split at ew
      · rename_i hj
        simp only [Bool.and_eq_true, decide_eq_true_eq] at hj
        cases ew
        obtain ⟨w1, w2, rfl, r1, r2⟩ := pairV2 hb
        cases (show w1 = .int i from r1)
        cases (show w2 = .int j from r2)
        exact ⟨i, j, rfl, ⟨hj.1.1.1, hj.1.1.2, hj.1.2, hj.2⟩, q _ fun Of2 ρ2 σ2 H2 no S2 kp lo fx sm => jf_range⟩
      · cases ew
    · rename_i e1
      cases e1
    · cases ew
theorem i_range3 {a b c : Expr} {cs : CEs} {p : Pos} (hl : cs.len = 3) (hg : Gl X "range") (hm : X.mg "range" = none) (ha : DAs X G pn W [a, b, c] (evs C cs)) (hs : starEach [a, b, c] X.env = (false, eval a X.env) :: starEach [b, c] X.env) (hpl : (backTo pos (starEach [b, c] X.env)).any (·.1) = false) : DI X G pn W tg (.Call (.Name "range" p) [a, b, c] [] pos) (srcM C cs .range) :=
  PI.imp (pi_range3 hg hm ha hs hpl) fun σ H R h => by
    obtain ⟨Of, ρ, S, hp⟩ := src_red' h
    refine ⟨Of, ρ, S, PostG.mono hp fun vs H1 ⟨Of', ρ1, as, ds0, ds, h0, S1, r, ed, ew, q⟩ => ?_⟩
    have hb := ard_ok S1 r ed
    obtain ⟨d, d', d'', rfl⟩ := len3 (h0.trans hl)
    replace ew : rangeD [d, d', d''] = some ds := ew
    unfold rangeD at ew
    split at ew
    · rename_i e1
      cases e1
    · rename_i e1
      cases e1
    · rename_i i j k ej
      cases ej
      split at ew
      · rename_i hj
        simp only [Bool.and_eq_true, decide_eq_true_eq] at hj
        cases ew
        obtain ⟨⟨⟨⟨rfl, h1⟩, h2⟩, h3⟩, h4⟩ := hj
        obtain ⟨w1, w2, w3, rfl, r1, r2, r3⟩ := pairV3 hb
        cases (show w1 = .int i from r1)
        cases (show w2 = .int j from r2)
        cases (show w3 = .int (-1) from r3)
        exact ⟨i, j, -1, _, rfl, RgC.neg h1 h2 h3 h4, q _ fun Of2 ρ2 σ2 H2 no S2 kp lo fx sm => jf_down⟩
      · cases ew
    · cases ew
/-! ### zip -/
theorem zipD_get : ∀ {xs ys : List D} {i : Nat} {d : D}, (zipD xs ys)[i]? = some d → ∃ x y, xs[i]? = some x ∧ ys[i]? = some y ∧ d = .tup [x, y]
  | [], ys, i, d, h => by simp [zipD] at h
  | _ :: _, [], i, d, h => by simp [zipD] at h
  | x :: xs, y :: ys, 0, d, h => by
    simp [zipD] at h
    exact ⟨x, y, by simp, by simp, h.symm⟩
  | x :: xs, y :: ys, i + 1, d, h => by
    obtain ⟨a, b, h1, h2, h3⟩ := zipD_get (xs := xs) (ys := ys) (i := i) (by simpa [zipD] using h)
    exact ⟨a, b, by simpa using h1, by simpa using h2, h3⟩
theorem zipD_len : ∀ {xs ys : List D}, xs.length ≤ (zipD xs ys).length ∨ ys.length ≤ (zipD xs ys).length
  | [], _ => .inl (Nat.zero_le _)
  | _ :: _, [] => .inr (Nat.zero_le _)
  | _ :: xs, _ :: ys => by
    simp only [zipD, List.length_cons]
    exact (zipD_len (xs := xs) (ys := ys)).imp (fun h => by omega) fun h => by omega
theorem pair_new {x y : D} {u v : V} {T : Addr} (hO : ∀ a, O a → H a ≠ none) (h1 : RelD G pn O H x u) (h2 : RelD G pn O H y v) (n : H T = none) : Ext H (upd H T (.tup [u, v])) ∧ RelD G pn O (upd H T (.tup [u, v])) (.tup [x, y]) (.ref T) :=
  ⟨Ext.new n, (new_tup hO (RelDs.cons h1 (RelDs.cons h2 (show RelDs G pn O H [] [] from rfl))) n).1 rfl⟩
theorem jf_zipL {a b : Addr} {xs ys : List D} {vs ws : List V} (hO : ∀ a, O a → H a ≠ none) (h1 : SqL X.K H a vs) (h2 : SqL X.K H b ws) (r1 : RelDs G pn O H xs vs) (r2 : RelDs G pn O H ys ws) : JFacts G pn O H (Itz X.K a b) (zipD xs ys) := by
  refine ⟨fun i d e => ?_, vs, ws, h1, h2, ?_⟩
  · obtain ⟨x, y, e1, e2, rfl⟩ := zipD_get e
    obtain ⟨u, k1, k2⟩ := r1.get e1
    obtain ⟨v, k3, k4⟩ := r2.get e2
    refine ⟨⟨vs, ws, u, v, h1, h2, k1, k3⟩, fun z H' q => ?_⟩
    obtain ⟨T, u', v', rfl, n, rfl, q1, q2⟩ := q
    have q1' := q1 vs h1
    have q2' := q2 ws h2
    rw [k1] at q1'
    rw [k3] at q2'
    cases q1'
    cases q2'
    exact pair_new hO k2 k4 n
  · rw [r1.length, r2.length]
    exact zipD_len
theorem jf_zipT {a b : Addr} {xs ys : List D} {vs ws : List V} (hO : ∀ a, O a → H a ≠ none) (h1 : SqT X.K H a vs) (h2 : SqT X.K H b ws) (r1 : RelDs G pn O H xs vs) (r2 : RelDs G pn O H ys ws) : JFacts G pn O H (ItzT X.K a b) (zipD xs ys) := by
  refine ⟨fun i d e => ?_, vs, ws, h1, h2, ?_⟩
  · obtain ⟨x, y, e1, e2, rfl⟩ := zipD_get e
    obtain ⟨u, k1, k2⟩ := r1.get e1
    obtain ⟨v, k3, k4⟩ := r2.get e2
    refine ⟨⟨vs, ws, u, v, h1, h2, k1, k3⟩, fun z H' q => ?_⟩
    obtain ⟨T, u', v', rfl, n, rfl, q1, q2⟩ := q
    have q1' := q1 vs h1
    have q2' := q2 ws h2
    rw [k1] at q1'
    rw [k3] at q2'
    cases q1'
    cases q2'
    exact pair_new hO k2 k4 n
  · rw [r1.length, r2.length]
    exact zipD_len
theorem i_zip {a b : Expr} {cs : CEs} {p tpos : Pos} {elts : List Expr} {kk : Nat} (hK : X.K = G.K) (hl : cs.len = 2) (hg : Gl X "zip") (hm : X.mg "zip" = none) (ha : DAs X G pn W [a, b] (evs C cs)) (hs : starEach [a, b] X.env = (false, eval a X.env) :: starEach [b] X.env) (hpl : (backTo pos (starEach [b] X.env)).any (·.1) = false) :
    DI X G pn W (.Tuple elts kk tpos) (.Call (.Name "zip" p) [a, b] [] pos) (srcM C cs .zip) :=
  PI.imp (pi_zipA hg hm ha hs hpl) fun σ H R h => by
    obtain ⟨Of, ρ, S, hp⟩ := src_red' h
    refine ⟨Of, ρ, S, PostG.mono hp fun vs H1 ⟨Of', ρ1, as, ds0, ds, h0, S1, r, ed, ew, q⟩ => ?_⟩
    have hb := ard_ok S1 r ed
    obtain ⟨d, d', rfl⟩ := len2 (h0.trans hl)
    replace ew : (if isTup d == isTup d' then match seqD d, seqD d' with
      | some xs, some ys => some (zipD xs ys)
      | _, _ => none
    else none) = some ds := ew
    split at ew
    · rename_i ht
      have ht : isTup d = isTup d' := by simpa using ht
      cases e1 : seqD d with
      | none => simp only [e1] at ew; cases ew
      | some xs =>
        cases e2 : seqD d' with
        | none => simp only [e1, e2] at ew; cases ew
        | some ys =>
          simp only [e1, e2] at ew
          cases ew
          obtain ⟨u, v, rfl⟩ : ∃ u v, vs = [u, v] := len2 (by rw [← Paired.length hb]; rfl)
          cases hb with
          | cons b1 b2 =>
            cases b2 with
            | cons b2 b3 =>
              cases b3
              obtain ⟨l, us, rfl, k1, r1⟩ := seq_kind hK b1 e1
              obtain ⟨m, ws, rfl, k2, r2⟩ := seq_kind hK b2 e2
              have later : ∀ (Of2 : Addr → Prop) (ρ2 : Env) (σ2 : L2.St) (H2 : Hp), (∀ b, Of2 b → Of' b ∨ H1 b = none) → SR G pn Of2 H2 ρ2 σ2 → Kp (Lo ρ1 σ) H1 H2 → (∀ b, Lo ρ2 σ2 b → Lo ρ1 σ b ∨ H1 b = none) → (∀ i ∈ borsOf as, σ2[i]? = σ[i]?) → sameB ρ1 as ρ2 = true →
                  ∃ us' ws', ((isTup d = false ∧ SqL X.K H2 l us' ∧ SqL X.K H2 m ws') ∨ (isTup d = true ∧ SqT X.K H2 l us' ∧ SqT X.K H2 m ws')) ∧ RelDs G pn (Oo Of2 ρ2 σ2) H2 xs us' ∧ RelDs G pn (Oo Of2 ρ2 σ2) H2 ys ws' := by
                intro Of2 ρ2 σ2 H2 no S2 kp lo fx sm
                cases src_later no S2 kp lo r ed fx sm with
                | cons c1 c2 =>
                  cases c2 with
                  | cons c2 c3 =>
                    obtain ⟨l', us', e3, k3, r3⟩ := seq_kind hK c1 e1
                    obtain ⟨m', ws', e4, k4, r4⟩ := seq_kind hK c2 e2
                    cases e3
                    cases e4
                    refine ⟨us', ws', ?_, r3, r4⟩
                    rcases k3 with ⟨t1, k3⟩ | ⟨t1, k3⟩
                    · rcases k4 with ⟨t2, k4⟩ | ⟨t2, k4⟩
                      · exact .inl ⟨t1, k3, k4⟩
                      · rw [← ht, t1] at t2
                        cases t2
                    · rcases k4 with ⟨t2, k4⟩ | ⟨t2, k4⟩
                      · rw [← ht, t1] at t2
                        cases t2
                      · exact .inr ⟨t1, k3, k4⟩
              rcases k1 with ⟨t1, k1⟩ | ⟨t1, k1⟩
              · rcases k2 with ⟨t2, k2⟩ | ⟨t2, k2⟩
                · refine ⟨l, m, us, ws, rfl, .inl ⟨k1, k2, q _ fun Of2 ρ2 σ2 H2 no S2 kp lo fx sm => ?_⟩⟩
                  obtain ⟨us', ws', z, r3, r4⟩ := later Of2 ρ2 σ2 H2 no S2 kp lo fx sm
                  rcases z with ⟨_, z1, z2⟩ | ⟨z, _⟩
                  · exact jf_zipL S2.hO z1 z2 r3 r4
                  · rw [t1] at z
                    cases z
                · rw [← ht, t1] at t2
                  cases t2
              · rcases k2 with ⟨t2, k2⟩ | ⟨t2, k2⟩
                · rw [← ht, t1] at t2
                  cases t2
                · refine ⟨l, m, us, ws, rfl, .inr ⟨k1, k2, q _ fun Of2 ρ2 σ2 H2 no S2 kp lo fx sm => ?_⟩⟩
                  obtain ⟨us', ws', z, r3, r4⟩ := later Of2 ρ2 σ2 H2 no S2 kp lo fx sm
                  rcases z with ⟨z, _⟩ | ⟨_, z1, z2⟩
                  · rw [t1] at z
                    cases z
                  · exact jf_zipT S2.hO z1 z2 r3 r4
    · cases ew
end
end PI
/-! PI, part o: raise and try. -/
namespace PI
open PySem PySem.Spec L2 PyProof.Rows
section
variable {X : Cx} {G : Txt} {pn pn' : List (Addr × Obj)} {W : WX} {C : Ctx} {pos : Pos} {N : Ent} {H H1 H' : Hp} {ρ ρ1 ρ' : Env} {σ σ1 σ' : L2.St} {O : Addr → Prop}
/-! ### exceptions as values -/
mutual
theorem RelD.pins (h : ∀ p ∈ pn, p ∈ pn') : ∀ (d : D) (v : V), RelD G pn O H d v → RelD G pn' O H d v
  | .non, _, r => r
  | .bl _, _, r => r
  | .int _, _, r => r
  | .str _, _, r => r
  | .tup xs, _, ⟨a, vs, e, h1, h2⟩ => ⟨a, vs, e, h1, RelDs.pins h xs vs h2⟩
  | .lst o xs, _, ⟨e0, a, vs, e, h1, h2, h3⟩ => ⟨e0, a, vs, e, h1, h2, RelDs.pins h xs vs h3⟩
  | .scr ns, _, r => r
  | .dic o ks ds, _, ⟨e0, a, kvs, e, h1, h2, h3, h4⟩ => ⟨e0, a, kvs, e, h1, h2, RelDs.pins h ks _ h3, RelDs.pins h ds _ h4⟩
  | .ins o C ds, _, ⟨e0, a, dx, c, vs, e, h1, ht, h2, h3, h4⟩ => ⟨e0, a, dx, c, vs, e, h1, ht, h2, h3, RelDs.pins h ds _ h4⟩
  | .fn _, _, r => r
  | .exc C ds, _, ⟨a, oe, dd, c, e, hp, ht, hz, r⟩ => ⟨a, oe, dd, c, e, h _ hp, ht, hz, match r with
    | .inl r => .inl r
    | .inr ⟨d, vs, fs, ed, h1, h2, h3, h4, h5⟩ => .inr ⟨d, vs, fs, ed, h1, h2, h3, h4, RelDs.pins h ds _ h5⟩⟩
theorem RelDs.pins (h : ∀ p ∈ pn, p ∈ pn') : ∀ (ds : List D) (vs : List V), RelDs G pn O H ds vs → RelDs G pn' O H ds vs
  | [], _, r => r
  | d :: ds, _, ⟨v, r, e, h1, h2⟩ => ⟨v, r, e, RelD.pins h d v h1, RelDs.pins h ds r h2⟩
end
mutual
theorem RelD.unpin : ∀ (d : D) (v : V), d.noX = true → RelD G pn O H d v → RelD G pn' O H d v
  | .non, _, _, r => r
  | .bl _, _, _, r => r
  | .int _, _, _, r => r
  | .str _, _, _, r => r
  | .tup xs, _, n, ⟨a, vs, e, h1, h2⟩ => ⟨a, vs, e, h1, RelDs.unpin xs vs (by simpa [D.noX] using n) h2⟩
  | .lst o xs, _, n, ⟨e0, a, vs, e, h1, h2, h3⟩ => ⟨e0, a, vs, e, h1, h2, RelDs.unpin xs vs (by simpa [D.noX] using n) h3⟩
  | .scr ns, _, _, r => r
  | .dic o ks ds, _, n, ⟨e0, a, kvs, e, h1, h2, h3, h4⟩ => by
    have n' : D.noXs ks = true ∧ D.noXs ds = true := by simpa [D.noX] using n
    exact ⟨e0, a, kvs, e, h1, h2, RelDs.unpin ks _ n'.1 h3, RelDs.unpin ds _ n'.2 h4⟩
  | .ins o C ds, _, n, ⟨e0, a, dx, c, vs, e, h1, ht, h2, h3, h4⟩ => ⟨e0, a, dx, c, vs, e, h1, ht, h2, h3, RelDs.unpin ds _ (by simpa [D.noX] using n) h4⟩
  | .fn _, _, _, r => r
  | .exc C ds, _, n, _ => by simp [D.noX] at n
theorem RelDs.unpin : ∀ (ds : List D) (vs : List V), D.noXs ds = true → RelDs G pn O H ds vs → RelDs G pn' O H ds vs
  | [], _, _, r => r
  | d :: ds, _, n, ⟨v, r, e, h1, h2⟩ => by
    have n' : d.noX = true ∧ D.noXs ds = true := by simpa [D.noXs] using n
    exact ⟨v, r, e, RelD.unpin d v n'.1 h1, RelDs.unpin ds r n'.2 h2⟩
end
theorem BodyR.pins (h : ∀ p ∈ pn, p ∈ pn') {d : D} {v : V} (r : BodyR G pn O H d v) : BodyR G pn' O H d v := by
  cases d with
  | lst o xs => obtain ⟨a, vs, e, h2, h3⟩ := r; exact ⟨a, vs, e, h2, RelDs.pins h xs vs h3⟩
  | dic o ks ds => obtain ⟨a, kvs, e, h2, h3, h4⟩ := r; exact ⟨a, kvs, e, h2, RelDs.pins h ks _ h3, RelDs.pins h ds _ h4⟩
  | ins o C ds => obtain ⟨a, dx, c, vs, e, ht, h2, h3, h4⟩ := r; exact ⟨a, dx, c, vs, e, ht, h2, h3, RelDs.pins h ds _ h4⟩
  | _ => exact RelD.pins h _ v r
theorem BodyR.unpin {d : D} {v : V} (n : d.noX = true) (r : BodyR G pn O H d v) : BodyR G pn' O H d v := by
  cases d with
  | lst o xs => obtain ⟨a, vs, e, h2, h3⟩ := r; exact ⟨a, vs, e, h2, RelDs.unpin xs vs (by simpa [D.noX] using n) h3⟩
  | dic o ks ds =>
    have n' : D.noXs ks = true ∧ D.noXs ds = true := by simpa [D.noX] using n
    obtain ⟨a, kvs, e, h2, h3, h4⟩ := r; exact ⟨a, kvs, e, h2, RelDs.unpin ks _ n'.1 h3, RelDs.unpin ds _ n'.2 h4⟩
  | ins o C ds => obtain ⟨a, dx, c, vs, e, ht, h2, h3, h4⟩ := r; exact ⟨a, dx, c, vs, e, ht, h2, h3, RelDs.unpin ds _ (by simpa [D.noX] using n) h4⟩
  | _ => exact RelD.unpin (pn := pn) _ v n r
theorem noXe_get : ∀ {ρ : Env} {i : Nat} {d : D}, noXe ρ = true → rdS ρ i = some d → d.noX = true
  | [], _, _, _, h => by simp [rdS] at h
  | none :: ρ, i, d, e, h => by
    cases i with
    | zero => simp [rdS] at h
    | succ i => exact noXe_get (ρ := ρ) (i := i) (by simpa [noXe] using e) (by rw [rdS_some] at h ⊢; simpa using h)
  | some x :: ρ, i, d, e, h => by
    have e' : x.noX = true ∧ noXe ρ = true := by simpa [noXe] using e
    cases i with
    | zero =>
      rw [rdS_some] at h
      have h' : x = d := by simpa using h
      subst h'
      exact e'.1
    | succ i => exact noXe_get (ρ := ρ) (i := i) e'.2 (by rw [rdS_some] at h ⊢; simpa using h)
theorem SR.pins {Of : Addr → Prop} (h : ∀ p ∈ pn, p ∈ pn') (S : SR G pn Of H ρ σ) : SR G pn' Of H ρ σ := ⟨S.len, fun i d e => by
  obtain ⟨v, h1, h2, h3⟩ := S.rel i d e
  exact ⟨v, h1, h2.pins h, fun z => RelD.pins h d v (h3 z)⟩, S.inj, S.dis, S.oft, S.tab⟩
theorem SR.unpin {Of : Addr → Prop} (n : noXe ρ = true) (S : SR G pn Of H ρ σ) : SR G pn' Of H ρ σ := ⟨S.len, fun i d e => by
  obtain ⟨v, h1, h2, h3⟩ := S.rel i d e
  exact ⟨v, h1, h2.unpin (noXe_get n e), fun z => RelD.unpin d v (noXe_get n e) (h3 z)⟩, S.inj, S.dis, S.oft, S.tab⟩
theorem StOk.pins (h : ∀ p ∈ pn, p ∈ pn') (s : StOk G pn N H ρ σ) : StOk G pn' N H ρ σ := ⟨s.S.pins h, s.kp, s.lo, s.fx, s.th, s.ol, s.oh⟩
theorem StOk.unpin (n : noXe ρ = true) (s : StOk G pn N H ρ σ) : StOk G pn' N H ρ σ := ⟨s.S.unpin n, s.kp, s.lo, s.fx, s.th, s.ol, s.oh⟩
/-! ### raise -/
/-- what __init__ of an exception's class does: its fields are what it is given -/
def spX (K : PySem.W.Frag) (fields : List Str) : Sp := fun vs H Q _ => ∃ (a C : Addr) (ws : List V), vs = .ref a :: ws ∧ ws.length = fields.length ∧ H a = some (exo a C none) ∧ OexC K C ∧ (∀ f ∈ fields, PySem.W.findIn K (.ref C) f = some none) ∧
  ∀ dx fs H', H dx = none → dx ≠ a → (∀ f : Str, List.lookup f fs = (fields.zip ws).lookup f) → H' a = some (exo a C (some dx)) → H' dx = some (exd dx fs) → (∀ b, b ≠ a → b ≠ dx → H' b = H b) → Q .non H'
theorem raise_end {K : Nat} {c : Cls} {ds : List D} {ws : List V} {a d : Addr} {fs : List (Str × V)} {Dn : Ends} (s : StOk G pn N H ρ σ) (hT : G.T K = some c) (r : RelDs G pn (Oo N.Of ρ σ) H ds ws) (hl : ws.length = c.fields.length) (na : H a = none) (nd : H d = none) (hf : ∀ f, fs.lookup f = (c.fields.zip ws).lookup f)
    (q : PostS G pn W N (.exc (.exc K ds) ρ) Dn) : W (.ref (G.ca K)) (some d) σ (upd H d (.xd fs)) := by
  have e : Ext H (upd H d (.xd fs)) := Ext.new nd
  refine q σ _ _ _ (s.step (Kp.same e) (SameOwn.refl _) (s.S.grow e)) ⟨K, ds, c, rfl, hT, rfl, .inr ⟨d, ws, fs, rfl, fun z => s.S.hO d z nd, upd_same, hf, hl, ?_⟩⟩
  exact RelDs.mono (Kp.same e) (fun b q => .inl q) _ _ r
theorem raise_red {K : Nat} {cs : CEs} {Dn : Ends} (hT : C.T = G.T) (s : StOk G pn N H ρ σ) (h : PostS G pn W N (run C (.raise K cs) ρ) Dn) : PostG G pn W (ArsR G pn) N.Of H ρ σ (evs C cs ρ) fun vs H1 => ∃ ds ρ1 c, StOk G pn N H1 ρ1 σ ∧ RelDs G pn (Oo N.Of ρ1 σ) H1 ds vs ∧ G.T K = some c ∧ ds.length = c.fields.length ∧ PostS G pn W N (.exc (.exc K ds) ρ1) Dn := by
  unfold run at h
  refine PostG.mono (es_bind s h) fun vs H1 ⟨as, ρ1, _, s1, _, _, r, q⟩ => ?_
  cases e : ardD as with
  | none => simp only [e] at q; exact (show False from q).elim
  | some ds =>
    rw [hT] at q
    cases e2 : G.T K with
    | none => simp only [e, e2] at q; exact (show False from q).elim
    | some c =>
      simp only [e, e2] at q
      split at q
      · rename_i hc
        rw [Bool.and_eq_true, decide_eq_true_eq] at hc
        exact ⟨ds, ρ1, c, s1, ardD_ok r e, rfl, hc.1, q⟩
      · exact (show False from q).elim
/-- raise C(e, ..), C with fields -/
theorem s_raise {K k : Nat} {c : Cls} {x : Str} {fI : Addr} {fd : FuncData} {ps : List Str} {e : Expr} {es : List Expr} {cs : CEs} {p p2 : Pos} (hT : C.T = G.T) (hTK : G.T K = some c) (hcalm : X.calm = true) (tk : Takes X W) (T : OexC X.K (G.ca K)) (iC : PySem.W.findIn X.K (.ref (G.ca K)) "__init__" = some (some (.ref fI))) (tI : PySem.W.typeIn X.K (.ref fI) = some (.type "function"))
    (hno : ∀ f ∈ c.fields, PySem.W.findIn X.K (.ref (G.ca K)) f = some none) (hle : c.fields.length ≤ 1000) (F1 : FnOk X.prog X.w X.K X.mg X.base (L2.CX X.prog X.w) k fI fd ps (spX X.K c.fields)) (hr : Room (k + 1) X.A) (hb : Binds X.K fd ps []) (hg : Gl X x) (hm : X.mg x = some (.ref (G.ca K))) (ha : DAs X G pn W (e :: es) (evs C cs))
    (hdb : (x == ("__debug__" : Str)) = false) (he : starEach (e :: es) X.env = (false, eval e X.env) :: starEach es X.env) (hpl : (backTo p2 (starEach es X.env)).any (·.1) = false) : DS X G pn W N (.Raise (some (.Call (.Name x p) (e :: es) [] p2)) none pos) (run C (.raise K cs)) := by
  have hx : Passes (L2.CX X.prog X.w) X (fun _ _ _ => False) := passes_call (E := fun _ _ _ => False) tk fun _ _ _ _ z => z.elim
  refine PS.imp (ps_raise hcalm tk (pmk_oex T iC tI F1 hr hb .nil hx hg hm ha hdb he hpl)) fun Dn σ H ⟨ρ, s, h⟩ => ⟨N.Of, ρ, s.S, PostG.mono (raise_red hT s h) fun vs H1 ⟨ds, ρ1, c', s1, r, e1, hl, q⟩ => ?_⟩
  rw [hTK] at e1
  cases e1
  have hlen : vs.length = c.fields.length := by rw [r.length, hl]
  refine ⟨by omega, fun a na => ⟨a, G.ca K, vs ++ [], rfl, by rw [List.append_nil]; exact hlen, upd_same, T, hno, fun dx fs H' nd nda hf ea ed rest => ⟨rfl, dx, fs, ea, ed, ?_, ?_⟩⟩⟩
  · rw [upd_ne nda] at nd
    exact nd
  · rw [upd_ne nda] at nd
    have eH : upd (del H' a) dx (.xd fs) = upd H1 dx (.xd fs) := by
      funext b
      by_cases e1 : b = dx
      · subst e1
        rw [upd_same, upd_same]
      · rw [upd_ne e1, upd_ne e1]
        by_cases e2 : b = a
        · subst e2
          rw [del_same, na]
        · rw [del_ne e2, rest b e2 e1, upd_ne e2]
    rw [eH]
    refine raise_end s1 hTK r hlen na nd (fun f => ?_) q
    rw [hf f, List.append_nil]
/-- raise C(), C without fields and without __init__ of its own -/
theorem s_raise0 {K : Nat} {c : Cls} {x : Str} {p p2 : Pos} {bmB : List Value} {B newId initId : String} (hT : C.T = G.T) (hTK : G.T K = some c) (hz : c.fields = []) (hcalm : X.calm = true) (tk : Takes X W) (F : ExcBaseFacts B newId initId bmB) (hq : PySem.W.excIn X.K (G.ca K) bmB newId = true) (kC : PySem.W.keepIn X.K (.ref (G.ca K)) = true)
    (r : Raises X (.ref (G.ca K))) (hg : Gl X x) (hm : X.mg x = some (.ref (G.ca K))) (hdb : (x == ("__debug__" : Str)) = false) : DS X G pn W N (.Raise (some (.Call (.Name x p) [] [] p2)) none pos) (run C (.raise K .nil)) := by
  have mk : PMk X (.Call (.Name x p) [] [] p2) (fun _ H Q => Q (.ref (G.ca K)) none H) := by
    intro pins s σ H Q I h
    refine wpAny_Call_Name_kw (ld_glob I hg hm ?_ hdb)
    refine PySem.W.callWith_K0 I.kIn kC ?_
    show wpAny _ _ (call (.ref (G.ca K)) []) _ _ _
    obtain ⟨bm, Na, nm, qn, bs, hdct, sn, sub, ab, col, dd, k0, k1, k2, k3, k5, mN, hC, hN, hni, T⟩ := exc_obj I.kIn hq
    exact wpAny_call_exc_subT F T hC hN hni (fun h' e hm' => mk_of I hm' r h (I.hok.gone hm'.new)) (Nat.zero_le _)
  refine PS.imp (ps_raise hcalm tk mk) fun Dn σ H ⟨ρ, s, h⟩ => ?_
  have h1 := raise_red hT s h
  have h2 : ∃ ds ρ1 c', StOk G pn N H ρ1 σ ∧ RelDs G pn (Oo N.Of ρ1 σ) H ds [] ∧ G.T K = some c' ∧ ds.length = c'.fields.length ∧ PostS G pn W N (.exc (.exc K ds) ρ1) Dn := by
    unfold evs at h1
    exact PostG.now (b := []) s.S (show ArsR G pn N.Of ρ σ H H [] [] from .nil) h1
  obtain ⟨ds, ρ1, c', s1, rr, e1, hl, q⟩ := h2
  rw [hTK] at e1
  cases e1
  rw [hz] at hl
  have ed : ds = [] := List.eq_nil_of_length_eq_zero hl
  subst ed
  exact q σ H _ none s1 ⟨K, [], c, rfl, hTK, rfl, .inl ⟨rfl, rfl, hz⟩⟩
/-! ### try -/
/-- an exception that is caught, as a value -/
theorem exc_val {e : D} {cls : Value} {dd : Option Addr} {a : Addr} {oe : Obj} (r : ExcR G [] O H e cls dd) (hz : L2.Zc cls dd oe) : RelD G [(a, oe)] O H e (.ref a) := by
  obtain ⟨K, ds, c, rfl, hT, rfl, r⟩ := r
  refine ⟨a, oe, dd, c, rfl, List.mem_cons_self .., hT, hz, ?_⟩
  rcases r with r | ⟨d, vs, fs, ed, h1, h2, h3, h4, h5⟩
  · obtain ⟨r1, r2, r3⟩ := r
    exact .inl ⟨r1, r2, r3⟩
  · exact .inr ⟨d, vs, fs, ed, h1, h2, h3, h4, RelDs.pins (fun p z => by cases z) _ _ h5⟩
theorem clr_get {i j : Nat} {d : D} (h : rdS (ρ.set i none) j = some d) : j ≠ i ∧ rdS ρ j = some d := by
  rw [rdS_some] at h
  by_cases e : j = i
  · subst e
    by_cases hl : j < ρ.length
    · rw [List.getElem?_set_self hl] at h
      cases h
    · rw [List.getElem?_eq_none (by simpa using hl)] at h
      cases h
  · rw [List.getElem?_set_ne (Ne.symm e)] at h
    exact ⟨e, rdS_some.mpr h⟩
theorem clr_own {i j : Nat} {a : Addr} (h : OwnA (ρ.set i none) (σ.set i none) j a) : OwnA ρ σ j a := by
  obtain ⟨d, h1, h2⟩ := ownAt_true h.1
  obtain ⟨n, h3⟩ := clr_get h1
  refine ⟨by rw [ownAt_some h3]; exact h2, ?_⟩
  have h4 := h.2
  rw [List.getElem?_set_ne (Ne.symm n)] at h4
  exact h4
theorem clr_lo {i : Nat} {a : Addr} (h : Lo (ρ.set i none) (σ.set i none) a) : Lo ρ σ a := let ⟨j, h⟩ := h; ⟨j, clr_own h⟩
/-- a name goes -/
theorem SR.clr {Of : Addr → Prop} {i : Nat} (S : SR G pn Of H ρ σ) : SR G pn Of H (ρ.set i none) (σ.set i none) := ⟨by simpa using S.len, fun j d e => by
  obtain ⟨n, e'⟩ := clr_get e
  obtain ⟨v, h1, h2, h3⟩ := S.rel j d e'
  have le : ∀ b, Oo Of (ρ.set i none) (σ.set i none) b → Oo Of ρ σ b := fun b q => q.imp id clr_lo
  exact ⟨v, by rw [List.getElem?_set_ne (Ne.symm n)]; exact h1, h2.mono Kp.refl (fun b q => .inl (le b q)) (fun _ _ _ _ z => z) h3, fun z => (h3 z).less le⟩, fun j k a h1 h2 => S.inj j k a (clr_own h1) (clr_own h2), fun a q => S.dis a (clr_lo q), S.oft, S.tab⟩
theorem StOk.clr {i : Nat} (hn : i ∉ N.fix) (s : StOk G pn N H ρ σ) : StOk G pn N H (ρ.set i none) (σ.set i none) := ⟨s.S.clr, s.kp, fun a q => s.lo a (clr_lo q), fun j hj => by
  rw [List.getElem?_set_ne (fun z => hn (by rw [z]; exact hj))]
  exact s.fx j hj, s.th, s.ol, s.oh⟩
theorem RtR.unpin {d : D} {v : V} (n : noXe ρ = true) (hd : d.noX = true) (r : RtR G pn N ρ σ H d v) : RtR G pn' N ρ σ H d v := ⟨fun z => RelD.unpin d v hd (r.1 z), fun z => by
  obtain ⟨a, e, h1, h2, h3⟩ := r.2 z
  exact ⟨a, e, h1, h2.unpin n, h3.unpin hd⟩⟩
theorem RtR.clr {d : D} {v : V} {i : Nat} (r : RtR G pn N ρ σ H d v) : RtR G pn N (ρ.set i none) (σ.set i none) H d v := ⟨fun z => (r.1 z).less fun b q => q.imp id clr_lo, fun z => by
  obtain ⟨a, e, h1, h2, h3⟩ := r.2 z
  exact ⟨a, e, h1, h2.clr, h3.mono Kp.refl (fun b q => .inl (q.imp id clr_lo)) (fun _ _ _ _ z => z) fun z' => by rw [z] at z'; cases z'⟩⟩
/-- the suite's reading: whatever object the exception is -/
def tsE (G : Txt) (N : Ent) (f : Env → Out Fl) (a : Addr) (cls : Value) (d : Option Addr) : TS := fun D σ H => ∀ oe : Obj, L2.Zc cls d oe → (∃ vs, oe.data = .fields vs) → tS G [(a, oe)] (fun _ _ _ _ => False) N f D σ H
theorem s_try {K i : Nat} {x n : Str} {body suite : List Stmt} {b0 : Stmt} {np pos' : Pos} {b h : CSs} (hs : X.stack = X.env :: X.outer) (hf : X.env.frame = some X.env.locals) (hN : X.N.Nodup) (hi : X.N[i]? = some n) (hln : X.env.kindOf n = some .local) (hni : i ∉ N.fix) (hc : Names X x (.ref (G.ca K))) (tk : Takes X W) (hT : C.T = G.T)
    (hex : ∀ K' c', G.T K' = some c' → PySem.W.exmOne X.K (.ref (G.ca K')) (.ref (G.ca K)) = some (isSub G.T K' K))
    (hb : ∀ (W' : WX) (pn' : List (Addr × Obj)) (xe : Value → Shared → Prop), Takes (X.tr pn' xe) W' → PassesOwn (model X.prog X.w) X.A X.env xe → DSs (X.tr pn' xe) G [] W' N body (runs C b))
    (hsu : ∀ (a : Addr) (oe : Obj) (pn' : List (Addr × Obj)), (∃ vs, oe.data = .fields vs) → DSs (X.suite a ((a, oe) :: pn')) G [(a, oe)] (fun _ _ _ _ => False) N (b0 :: suite) (runs C h)) :
    DS X G [] W N (.Try body [.ExceptHandler (some (.Name x np)) (some n) (b0 :: suite) pos'] [] [] pos) (run C (.tryE b K i h)) := by
  refine PS.imp (ps_try_as (tb := fun W' => tS G [] W' N (runs C b)) (ts := tsE G N (runs C h)) hs hf hN hi hln hc tk hb fun a oe cls d pn' hz hfd => PSs.imp (hsu a oe pn' hfd) fun D σ H q => q oe hz hfd) fun D σ H ⟨ρ, s, q⟩ => ?_
  unfold run at q
  refine ⟨ρ, s, ?_⟩
  cases e : runs C b ρ with
  | stuck => simp only [e] at q; exact q
  | ok f ρ1 => simp only [e] at q; exact q
  | exc x ρ1 =>
    simp only [e] at q
    intro σ1 H1 cls dd s1 r
    obtain ⟨K', ds, c', rfl, hT', rfl, r'⟩ := id r
    simp only at q
    rw [hT] at q
    refine ⟨isSub G.T K' K, hex K' c' hT', fun hb1 a na oe hz hfd => ?_, fun hb0 => ?_⟩
    · rw [if_pos hb1] at q
      have rv := exc_val (a := a) (oe := oe) r hz
      have s2 : StOk G [(a, oe)] N H1 ρ1 σ1 := s1.pins fun p z => by cases z
      split at q
      · rename_i hl
        refine ⟨_, s2.put (.of rv) hl hni, ?_⟩
        cases er : runs C h (ρ1.set i (some (.exc K' ds))) with
        | stuck => simp only [er] at q; exact q
        | exc _ _ => simp only [er] at q; exact (show False from q).elim
        | ok f ρ2 =>
          simp only [er] at q
          split at q
          · rename_i hx
            rw [Bool.and_eq_true] at hx
            have up : ∀ {σ' : L2.St} {H' : Hp}, StOk G [(a, oe)] N H' ρ2 σ' → StOk G [] N H' (ρ2.set i none) (σ'.set i none) := fun {σ' H'} s' => (s'.clr hni).unpin hx.1
            cases f with
            | nx => exact fun σ' H' s' => q _ _ (up s')
            | bk => exact fun σ' H' s' => q _ _ (up s')
            | ct => exact fun σ' H' s' => q _ _ (up s')
            | rt d => exact fun v σ' H' s' r2 => q v _ _ (up s') (r2.clr.unpin hx.1 hx.2)
          · exact (show False from q).elim
      · exact (show False from q).elim
    · rw [hb0] at q
      exact q σ1 H1 _ dd s1 r
theorem s_try0 {K : Nat} {x : Str} {body suite : List Stmt} {b0 : Stmt} {np pos' : Pos} {b h : CSs} (hs : X.stack = X.env :: X.outer) (hf : X.env.frame = some X.env.locals) (hc : Names X x (.ref (G.ca K))) (tk : Takes X W) (hT : C.T = G.T)
    (hex : ∀ K' c', G.T K' = some c' → PySem.W.exmOne X.K (.ref (G.ca K')) (.ref (G.ca K)) = some (isSub G.T K' K))
    (hb : ∀ (W' : WX) (pn' : List (Addr × Obj)) (xe : Value → Shared → Prop), Takes (X.tr pn' xe) W' → PassesOwn (model X.prog X.w) X.A X.env xe → DSs (X.tr pn' xe) G [] W' N body (runs C b))
    (hsu : ∀ (a : Addr) (oe : Obj) (pn' : List (Addr × Obj)), (∃ vs, oe.data = .fields vs) → DSs (X.suite a ((a, oe) :: pn')) G [(a, oe)] (fun _ _ _ _ => False) N (b0 :: suite) (runs C h)) :
    DS X G [] W N (.Try body [.ExceptHandler (some (.Name x np)) none (b0 :: suite) pos'] [] [] pos) (run C (.tryO b K h)) := by
  refine PS.imp (ps_try_only (tb := fun W' => tS G [] W' N (runs C b)) (ts := tsE G N (runs C h)) hs hf hc tk hb fun a oe cls d pn' hz hfd => PSs.imp (hsu a oe pn' hfd) fun D σ H q => q oe hz hfd) fun D σ H ⟨ρ, s, q⟩ => ?_
  unfold run at q
  refine ⟨ρ, s, ?_⟩
  cases e : runs C b ρ with
  | stuck => simp only [e] at q; exact q
  | ok f ρ1 => simp only [e] at q; exact q
  | exc x ρ1 =>
    simp only [e] at q
    intro σ1 H1 cls dd s1 r
    obtain ⟨K', ds, c', rfl, hT', rfl, r'⟩ := id r
    simp only at q
    rw [hT] at q
    refine ⟨isSub G.T K' K, hex K' c' hT', fun hb1 a na oe hz hfd => ?_, fun hb0 => ?_⟩
    · rw [if_pos hb1] at q
      have s2 : StOk G [(a, oe)] N H1 ρ1 σ1 := s1.pins fun p z => by cases z
      refine ⟨_, s2, ?_⟩
      cases er : runs C h ρ1 with
      | stuck => simp only [er] at q; exact q
      | exc _ _ => simp only [er] at q; exact (show False from q).elim
      | ok f ρ2 =>
        simp only [er] at q
        split at q
        · rename_i hx
          rw [Bool.and_eq_true] at hx
          cases f with
          | nx => exact fun σ' H' s' => q _ _ (s'.unpin hx.1)
          | bk => exact fun σ' H' s' => q _ _ (s'.unpin hx.1)
          | ct => exact fun σ' H' s' => q _ _ (s'.unpin hx.1)
          | rt d => exact fun v σ' H' s' r2 => q v _ _ (s'.unpin hx.1) (r2.unpin hx.1 hx.2)
        · exact (show False from q).elim
    · rw [hb0] at q
      exact q σ1 H1 _ dd s1 r
end
end PI
/-! PI, part p: fields, isinstance. -/
namespace PySem.W
open PySem PySem.Spec PySem.Calls PyProof.Rows
section
variable {prog : Program} {w : World} {A : Around} {E : Value → Shared → Prop} {s : Shared} {K : Frag} {x D : Addr} {ox : Obj} {od : Option Obj}
/-- an own exception's class, by its attribute -/
theorem pi_classE {Q : Option Value → Shared → Prop} (hga : findIn K (.ref D) "__getattribute__" = some (some (.builtin "BaseException.__getattribute__")))
    (hgt : findIn K (.ref D) "__getattr__" = some none) (hsub : subIn K (.ref D) (.type "BaseException") = some true)
    (hf : findObj K D od "__class__" = some (.bind (.builtin "getset_descriptor.__get__") (.builtin "object.__class__")))
    (hm : mroIn K D (.type "object") = some true) (X : K.In s.heap) (I : InstAt s.heap x ox D od)
    (h : Q (some (.ref D)) { s with toks := s.toks + 1 }) : wpAny (model prog w) A (getAttr? (.ref x) "__class__") Q E s := by
  obtain ⟨hp, g, d, t, os⟩ := s
  have k0 := I.type (M := model prog w)
  have k1 := looks_findIn (M := model prog w) X hga
  have k2 := looks_findIn (M := model prog w) X hgt
  have k3 := looks_find (M := model prog w) X I hf
  have ks : Looks (model prog w) hp (isInstance (.ref x) (.type "BaseException")) true := k0.andThen (looks_subIn X hsub)
  have n0 : (Value.builtin "BaseException.__getattribute__" == Value.builtin "object.__getattribute__") = false := by decide +kernel
  have n1 : (onTheHeap (Value.ref D) && Value.builtin "BaseException.__getattribute__" == Value.builtin "object.__getattribute__") = false := by rw [n0]; rfl
  have n2 : (false && onTheHeap (Value.builtin "BaseException.__getattribute__")) = false := rfl
  unfold getAttr? getAttrBy? getAttrBy
  refine wpAny_bind (wpAny_mkText ?_)
  refine wpAny_bind (wpAny_attempt (wpAny_holding ?_))
  refine wpAny_bind (k0.at (wpAny_bind (k1.at ?_)))
  show wpAny _ _ (if (onTheHeap (Value.ref D) && Value.builtin "BaseException.__getattribute__"
    == Value.builtin "object.__getattribute__") = true then _ else _) _ _ _
  rw [n1, if_neg Bool.false_ne_true]
  unfold getAttrByItsOwn hookBefore
  refine wpAny_bind ?_
  rw [if_pos (show onTheHeap (Value.ref D) = true from rfl)]
  refine k2.at ?_
  refine wpAny_bind (wpAny_attempt (wpAny_holding ?_))
  unfold callGetattribute
  rw [n2, if_neg Bool.false_ne_true]
  unfold boundAndCalled
  rw [PySem.F.excAttr_ValueError.ga.bind (.ref x)]
  refine wpAny_bind (wpAny_pure ?_)
  show wpAny _ _ (call (.builtin "BaseException.__getattribute__")
    [.ref x, .str "__class__" t]) _ _ _
  refine wpAny_call (codeAny_call_builtin PySem.F.excAttr_ValueError.ga.plain
    PySem.F.entry_bexc_ga ?_)
  refine @check_slot (model prog w) _ _ ⟨hp, g, d, t + 1, os⟩ "BaseException.__getattribute__" "BaseException"
    "__getattribute__" (.ref x) [.str "__class__" t] [] _ (by decide +kernel) (by decide +kernel) ks
    (PySem.F.args_bexc_ga (.ref x) (.str "__class__" t)) ?_
  unfold Builtin.«object.__getattribute__»
  refine wpAny_bind (wpAny_of_eq (a := ((Value.ref x : Value), [Value.str "__class__" t]))
    (by first | rfl | (simp only [slotArgs]; rfl)) ?_)
  refine wpAny_bind (wpAny_pure ?_)
  refine wpAny_bind (k0.at (wpAny_bind (k3.at ?_)))
  show wpAny _ _ (holding [Value.builtin "object.__class__"] (call (.builtin "getset_descriptor.__get__")
    [.builtin "object.__class__", .ref x, .ref D]) >>= ret) _ _ _
  refine wpAny_bind (wpAny_holding ?_)
  refine wpAny_call (class_get (s := ⟨hp, g, d, t + 1, os⟩) (ox := ox) (od := od) X I hm ?_)
  refine wpAny_pure ?_
  show wpAny _ _ (handedOut (.ref D)) _ _ _
  rw [handedOut_of (v := .ref D) rfl]
  first
    | exact wpAny_pure (wpAny_pure h)
    | exact wpAny_pure h
    | exact wpAny_pure (wpAny_bind (wpAny_pure (wpAny_pure h)))
theorem pi_kitx (hga : findIn K (.ref D) "__getattribute__" = some (some (.builtin "BaseException.__getattribute__")))
    (hgt : findIn K (.ref D) "__getattr__" = some none) (hsub : subIn K (.ref D) (.type "BaseException") = some true) (hdct : hasDictIn K D = true)
    (hf : findObj K D od "__class__" = some (.bind (.builtin "getset_descriptor.__get__") (.builtin "object.__class__"))) (hm : mroIn K D (.type "object") = some true) :
    KitX K (.ref x) (.ref D) (fun h => InstAt h x ox D od) where
  ty := fun _ _ _ I => I.type
  it := fun _ _ X _ => by
    obtain ⟨cdD, hcD, _⟩ := any_some hdct
    unfold clsIn at hcD
    split at hcD
    · rename_i c' d' cd' sl' ho
      intro A' Q' E' s' k q
      unfold isType loadHead
      have hl := k _ _ (X _ _ ho)
      exact wpAny_bind (wpAny_loadPart hl (wpAny_pure q))
    · cases hcD
  ne := fun h tp dd its n sl X htp => by
    obtain ⟨cdD, hcD, _⟩ := any_some hdct
    refine Bool.eq_false_iff.mpr fun q => ?_
    have e : D = tp := Value.ref.inj (beq_iff_eq.mp q)
    subst e
    unfold clsIn at hcD
    split at hcD
    · rename_i c' d' cd' sl' ho
      have z := (X _ _ ho).symm.trans htp
      cases z
    · cases hcD
  ca := fun X I k => pi_classE hga hgt hsub hf hm X I k
end
end PySem.W
namespace PI
open PySem PySem.Spec L2 PyProof.Rows
/-- what a class of the text must say -/
structure InsF (K : PySem.W.Frag) (a : Addr) (c : Cls) : Prop where
  cl : L2.Cls K a
  ha : PySem.W.findIn K (.ref a) "__class__" = some (some (.builtin "object.__class__"))
  hn : PySem.W.specialIn K (.builtin "object.__class__") "__get__" = some (some (.builtin "getset_descriptor.__get__"))
  ht : PySem.W.takesIn K (.builtin "object.__class__") = some true
  hm : PySem.W.mroIn K a (.type "object") = some true
  no : ∀ f ∈ c.fields, L2.NoAttr K a f
  nd : c.fields.Nodup
  few : c.fields.length ≤ 900
structure ExcF (K : PySem.W.Frag) (a : Addr) (c : Cls) : Prop where
  xf : L2.XfC K a
  ha : PySem.W.findIn K (.ref a) "__class__" = some (some (.builtin "object.__class__"))
  hn : PySem.W.specialIn K (.builtin "object.__class__") "__get__" = some (some (.builtin "getset_descriptor.__get__"))
  ht : PySem.W.takesIn K (.builtin "object.__class__") = some true
  hm : PySem.W.mroIn K a (.type "object") = some true
  no : ∀ f ∈ c.fields, PySem.W.findIn K (.ref a) f = some none
def tyU (G : Txt) : Ty → Value
  | .int => .type "int"
  | .bool => .type "bool"
  | .str => .type "str"
  | .tuple => .type "tuple"
  | .list => .type "list"
  | .dict => .type "dict"
  | .valueError => .type "ValueError"
  | .cls C => .ref (G.ca C)
def kindU (G : Txt) : D → Option Value
  | .non => some (.type "NoneType")
  | .bl _ => some (.type "bool")
  | .int _ => some (.type "int")
  | .str _ => some (.type "str")
  | .tup _ => some (.type "tuple")
  | .lst .. => some (.type "list")
  | .scr _ => some (.type "list")
  | .dic .. => some (.type "dict")
  | .ins _ C _ => some (.ref (G.ca C))
  | .exc C _ => some (.ref (G.ca C))
  | .fn _ => none
structure KF (K : PySem.W.Frag) (G : Txt) : Prop where
  ins : ∀ i c, G.T i = some c → c.exc = false → InsF K (G.ca i) c
  exc : ∀ i c, G.T i = some c → c.exc = true → ExcF K (G.ca i) c
  kit : ∀ (d : D) (t : Value) (ty : Ty) (b : Bool), okKind G.T d = true → kindU G d = some t → tyIs G.T d ty = some b → PySem.W.kitOne K t (tyU G ty) = some b
section
variable {X : Cx} {G : Txt} {pn : List (Addr × Obj)} {W : WX} {C : Ctx} {pos : Pos} {H : Hp} {σ : L2.St} {O : Addr → Prop}
theorem lookup_flds {c : Cls} {vs : List V} {f : Str} {v : V} (h : (flds c vs).lookup f = some v) : f ∈ c.fields := by
  unfold flds at h
  have := PySem.mem_of_lookup h
  exact (List.of_mem_zip this).1
theorem field_ok {c : Cls} {ds : List D} {vs : List V} {f : Str} {d : D} (r : RelDs G pn O H ds vs) (e : (c.fields.zip ds).lookup f = some d) : ∃ v, (flds c vs).lookup f = some v ∧ RelD G pn O H d v := by
  unfold flds
  generalize c.fields = fl at e
  induction fl generalizing ds vs with
  | nil => cases e
  | cons g gs ih =>
    cases ds with
    | nil => cases e
    | cons x xs =>
      obtain ⟨u, w, rfl, h1, h2⟩ := r
      rw [List.zip_cons_cons, List.lookup_cons] at e ⊢
      split at e
      · rename_i hb
        cases e
        exact ⟨u, rfl, h1⟩
      · exact ih h2 e
theorem fieldOf_some {x : Bool} {T : ClsT} {K : Nat} {vs : List D} {f : Str} {d : D} {c : Cls} (hT : T K = some c) (e : fieldOf x T K vs f = some d) : c.exc = x ∧ (c.fields.zip vs).lookup f = some d := by
  unfold fieldOf at e
  rw [hT] at e
  simp only at e
  split at e
  · rename_i h
    exact ⟨by simpa using h, e⟩
  · cases e
/-- e.f -/
theorem r_attr {f : Str} {e : Expr} {x : CA} (hK : X.K = G.K) (hT : C.T = G.T) (F : KF X.K G) (hpn : ∀ p ∈ pn, p ∈ X.pn ∧ PinF p) (he : DA X G pn W e (eva C x)) (hb : attributeBase e f X.env (eval e X.env) = eval e X.env) : DE X G pn W (.Attribute e f pos) (ev C (.pr (.attr f) (.cons x .nil))) := by
  refine ⟨fun pins s σ H Q I h => ?_⟩
  have h1 := prim_one (by rw [ev_pr hT] at h; exact h)
  refine attr_of hb (thn (he.run pins s σ H _ I h1) fun u s1 ⟨v, H1, I1, rx, O, ds, d, hO, hr, e1, q⟩ => ?_)
  obtain ⟨a, rfl, ra⟩ := pair1 hr
  replace e1 : pAttr G.T f [a] = some d := e1
  unfold pAttr at e1
  split at e1
  · rename_i o K' vs e2
    cases e2
    obtain ⟨l, dx, c, ws, rfl, hTc, hH, hl, r⟩ := ra
    cases rx
    obtain ⟨hx, e3⟩ := fieldOf_some hTc e1
    obtain ⟨w, k1, k2⟩ := field_ok r e3
    have If := F.ins K' c hTc hx
    exact getattr_ok I1 hH If.cl (If.no f (lookup_flds k1)) k1 fun u s2 I2 ru => ⟨w, H1, I2, ru, endC q k2⟩
  · rename_i K' vs e2
    cases e2
    obtain ⟨l, oe, dd, c, rfl, hp, hTc, hz, r⟩ := ra
    cases rx
    obtain ⟨hx, e3⟩ := fieldOf_some hTc e1
    rcases r with ⟨_, rfl, _⟩ | ⟨dx, ws, fs, rfl, n1, hH, hfs, hl, r⟩
    · rw [List.zip_nil_right] at e3
      cases e3
    · obtain ⟨w, k1, k2⟩ := field_ok r e3
      obtain ⟨hpX, vs', hd⟩ := hpn _ hp
      obtain ⟨ha, _⟩ := I1.pin (l, oe) (List.mem_append_left _ hpX)
      obtain ⟨mA, hns, hrr⟩ := (show ObjOk X.prog X.w H1 s1.heap dx (.xd fs) from I1.hok dx _ hH)
      obtain ⟨od, ho, hlk⟩ := lookIn_ns hns
      rw [← hfs f] at k1
      obtain ⟨u, hu, ru⟩ := RelO.some_of (v := w) (o := mA f) (by rw [← k1]; exact hrr f)
      have Ef := F.exc K' c hTc hx
      have J : PySem.W.InstAt s1.heap l oe (G.ca K') (some od) := ⟨ha, hz.1, by unfold PySem.W.notCls; rw [hd] <;> rfl, by rw [hz.2]; exact ho⟩
      have hno := Ef.no f (lookup_flds (by rw [hfs f] at k1; exact k1))
      exact HandSPX.exc_get I1.kIn J Ef.xf.ga Ef.xf.gg Ef.xf.exC (PySem.W.findObj_own Ef.xf.hdC hno rfl (by rw [hlk, hu])) (handed_of ru) ⟨w, H1, I1.tok _, ru, endC q k2⟩
  · cases e1
/-! ### isinstance -/
theorem kind_val {pins : List (Addr × Obj)} {s : Shared} {d : D} {x : V} {u t : Value} (hK : X.K = G.K) (F : KF X.K G) (hpn : ∀ p ∈ pn, p ∈ X.pn ∧ PinF p) (I : L2.Inv X pins σ H s) (rx : RelV x u) (r : BodyR G pn O H d x) (e : kindU G d = some t) (hi : ∀ o K' vs, d = .ins o K' vs → ∃ c, G.T K' = some c ∧ c.exc = false) (hx : ∀ K' vs, d = .exc K' vs → ∃ c, G.T K' = some c ∧ c.exc = true) :
    ∃ P : Heap → Prop, PySem.W.KitX X.K u t P ∧ P s.heap ∧ u ≠ .builtin "__main__.__loader__#opaque" := by
  cases d with
  | non =>
    cases e
    cases (show x = .non from r)
    exact kit_of I rx (.base .non)
  | bl b =>
    cases e
    cases (show x = .bl b from r)
    exact kit_of I rx (.base (.bl b))
  | int b =>
    cases e
    cases (show x = .int b from r)
    exact kit_of I rx (.base (.int b))
  | str b =>
    cases e
    cases (show x = .str b from r)
    exact kit_of I rx (.base (.str b))
  | tup xs =>
    cases e
    obtain ⟨a, vs, rfl, h1, _⟩ := r
    rcases h1 with ⟨_, h1⟩ | ⟨o, its, n, h1, h2, _⟩
    · exact kit_of I rx (.base (.tup h1))
    · rw [← hK] at h1
      exact kit_of I rx (.kTuple h1 h2)
  | lst o xs =>
    cases e
    obtain ⟨a, vs, rfl, h1, _⟩ := r
    exact kit_of I rx (.base (.lst h1))
  | scr ns =>
    cases e
    obtain ⟨a, o, rfl, _, h1⟩ := r
    exact kit_of I rx (.base (.frz h1))
  | dic o ks vs =>
    cases e
    obtain ⟨a, kvs, rfl, h1, _⟩ := r
    exact kit_of I rx (.base (.dK h1))
  | ins o K' vs =>
    cases e
    obtain ⟨a, dx, c, ws, rfl, hT, h1, _⟩ := r
    obtain ⟨c', hT', hc⟩ := hi o K' vs rfl
    have If := F.ins K' c' hT' hc
    exact kit_of I rx (.base (.ins h1 If.cl If.ha If.hn If.ht If.hm))
  | exc K' vs =>
    cases e
    obtain ⟨a, oe, dd, c, rfl, hp, hT, hz, hh⟩ := r
    obtain ⟨c', hT', hc⟩ := hx K' vs rfl
    have Ef := F.exc K' c' hT' hc
    cases rx
    obtain ⟨hpX, ws, hd⟩ := hpn _ hp
    obtain ⟨ha, _⟩ := I.pin (a, oe) (List.mem_append_left _ hpX)
    obtain ⟨cd, hcd, _⟩ := PySem.W.any_some Ef.xf.hdC
    have hcs : (PySem.W.clsIn X.K (G.ca K')).isSome = true := by rw [hcd]; rfl
    rcases hh with ⟨rfl, _, _⟩ | ⟨dx, ws', fs, rfl, _, hH, _, _, _⟩
    · have J : PySem.W.InstAt s.heap a oe (G.ca K') none := by
        obtain ⟨oc, od, oda, osl⟩ := oe
        obtain ⟨h1, h2⟩ := hz
        dsimp only at h1 h2 hd
        subst h1 h2 hd
        exact ⟨ha, rfl, rfl, trivial⟩
      exact ⟨_, PySem.W.pi_kitx Ef.xf.ga Ef.xf.gg Ef.xf.exC Ef.xf.hdC (PySem.W.findObj_dataN hcs Ef.ha Ef.hn Ef.ht) Ef.hm, J, fun z => nomatch z⟩
    · obtain ⟨mA, hns, _⟩ := (show ObjOk X.prog X.w H s.heap dx (.xd fs) from I.hok dx _ hH)
      obtain ⟨od, ho, _⟩ := lookIn_ns hns
      have J : PySem.W.InstAt s.heap a oe (G.ca K') (some od) := ⟨ha, hz.1, by unfold PySem.W.notCls; rw [hd] <;> rfl, by rw [hz.2]; exact ho⟩
      exact ⟨_, PySem.W.pi_kitx Ef.xf.ga Ef.xf.gg Ef.xf.exC Ef.xf.hdC (PySem.W.findObj_data hcs Ef.ha Ef.hn Ef.ht) Ef.hm, J, fun z => nomatch z⟩
  | fn f => cases e
/-- the classes asked for, as values -/
def tyW (G : Txt) : Ty → V
  | .int => .ty "int"
  | .bool => .ty "bool"
  | .str => .ty "str"
  | .tuple => .ty "tuple"
  | .list => .ty "list"
  | .dict => .ty "dict"
  | .valueError => .ty "ValueError"
  | .cls C => .ref (G.ca C)
theorem tyW_cls (t : Ty) : ClsV (tyW G t) (tyU G t) := by
  cases t <;> first | exact .ty _ | exact .own _
theorem kit_any (F : KF X.K G) {d : D} {t : Value} (hk : okKind G.T d = true) (e : kindU G d = some t) : ∀ {tys : List Ty} {b : Bool}, tyAny G.T d tys = some b → PySem.W.kitAny X.K t (tys.map (tyU G)) = some b
  | [], b, h => by
    cases h
    rfl
  | ty :: r, b, h => by
    unfold tyAny at h
    split at h
    · rename_i h1
      cases h
      exact kitAny_cons (F.kit d t ty true hk e h1) (fun z => by cases z) fun _ => rfl
    · rename_i h1
      exact kitAny_cons (F.kit d t ty false hk e h1) (fun _ => kit_any F hk e h) fun z => by cases z
    · cases h
/-- what tells the class of a thing -/
theorem tyAny_kind {d : D} {tys : List Ty} {b : Bool} (h : tyAny G.T d tys = some b) (hn : tys ≠ []) : ∃ t, kindU G d = some t := by
  cases tys with
  | nil => exact absurd rfl hn
  | cons ty r =>
    cases d with
    | fn f =>
      unfold tyAny at h
      have hz : tyIs G.T (.fn f) ty = none := by
        cases ty with
        | cls C' =>
          show (if (G.T C').isSome = true then (none : Option Bool) else none) = none
          split <;> rfl
        | _ => rfl
      rw [hz] at h
      cases h
    | _ => exact ⟨_, rfl⟩
theorem okKind_ins {d : D} (h : okKind G.T d = true) : (∀ o K' vs, d = .ins o K' vs → ∃ c, G.T K' = some c ∧ c.exc = false) ∧ ∀ K' vs, d = .exc K' vs → ∃ c, G.T K' = some c ∧ c.exc = true := by
  refine ⟨fun o K' vs e => ?_, fun K' vs e => ?_⟩
  · subst e
    unfold okKind at h
    cases e : G.T K' with
    | none => simp only [e] at h; cases h
    | some c =>
      simp only [e] at h
      exact ⟨c, rfl, by simpa using h⟩
  · subst e
    unfold okKind at h
    cases e : G.T K' with
    | none => simp only [e] at h; cases h
    | some c =>
      simp only [e] at h
      exact ⟨c, rfl, h⟩
theorem BodyR.grow {H' : Hp} {d : D} {v : V} (r : BodyR G pn O H d v) (x : Ext H H') : BodyR G pn O H' d v := by
  cases d with
  | lst o xs => obtain ⟨a, vs, e, h2, h3⟩ := r; exact ⟨a, vs, e, x _ _ h2, RelDs.mono (Kp.same x) (fun b q => .inl q) _ _ h3⟩
  | dic o ks ds => obtain ⟨a, kvs, e, h2, h3, h4⟩ := r; exact ⟨a, kvs, e, x _ _ h2, RelDs.mono (Kp.same x) (fun b q => .inl q) _ _ h3, RelDs.mono (Kp.same x) (fun b q => .inl q) _ _ h4⟩
  | ins o C ds => obtain ⟨a, dx, c, vs, e, ht, h2, h3, h4⟩ := r; exact ⟨a, dx, c, vs, e, ht, x _ _ h2, h3, RelDs.mono (Kp.same x) (fun b q => .inl q) _ _ h4⟩
  | _ => exact RelD.mono (Kp.same x) (fun b q => .inl q) _ v r
/-- what isinstance is asked -/
theorem isi_get {tys : List Ty} {x : V} {Q : VK} (h : rPn G pn (pr G.T (.isi tys)) [x] H Q) : ∃ (O : Addr → Prop) (d : D) (b : Bool), BodyR G pn O H d x ∧ okKind G.T d = true ∧ tys ≠ [] ∧ tyAny G.T d tys = some b ∧ (∀ a, O a → H a ≠ none) ∧ ∀ H', Ext H H' → Q (.bl b) H' := by
  obtain ⟨O, ds, d, hO, hr, e, q⟩ := h
  obtain ⟨a, rfl, ra⟩ := pair1 hr
  replace e : (if okKind G.T a && !tys.isEmpty then (tyAny G.T a tys).map D.bl else none) = some d := e
  split at e
  · rename_i hk
    rw [Bool.and_eq_true] at hk
    cases e1 : tyAny G.T a tys with
    | none => rw [e1] at e; cases e
    | some b =>
      rw [e1] at e
      cases e
      exact ⟨O, a, b, ra, hk.1, (by intro z; rw [z] at hk; simp at hk), e1, hO, fun H' x => q _ _ x ⟨fun _ => rfl, fun z => by cases z⟩⟩
  · cases e
theorem call_is1 (hK : X.K = G.K) (F : KF X.K G) (hpn : ∀ p ∈ pn, p ∈ X.pn ∧ PinF p) (ty : Ty) : CallR X (.builtin "isinstance") (fun xs H Q => ∃ x, xs = [x, tyW G ty] ∧ rPn G pn (pr G.T (.isi [ty])) [x] H Q) := by
  intro pins s σ H xs us Q I r ⟨x, e, h⟩
  subst e
  obtain ⟨O, d, b, ra, hk, _, e1, _, q⟩ := isi_get h
  obtain ⟨u1, u2, rfl, r1, r2⟩ := vals2 r
  obtain ⟨t, ht⟩ := tyAny_kind e1 (by simp)
  have e2 := (tyW_cls (G := G) ty).eq r2
  subst e2
  obtain ⟨hi, hx⟩ := okKind_ins hk
  obtain ⟨P, Z, p, hu⟩ := kind_val hK F hpn I r1 ra ht hi hx
  have e3 : tyIs G.T d ty = some b := by
    unfold tyAny at e1
    split at e1
    · cases e1
      assumption
    · rename_i e4
      cases e1
      exact e4
    · cases e1
  exact PySem.W.kia_one Z I.kIn p (F.kit d t ty b hk ht e3) hu fun tk => ⟨.bl b, H, I.tok tk, rfl, q H (Ext.refl H)⟩
theorem call_isT' (hK : X.K = G.K) (F : KF X.K G) (hpn : ∀ p ∈ pn, p ∈ X.pn ∧ PinF p) (tys : List Ty) : CallR X (.builtin "isinstance") (fun xs H Q => ∃ x tp, xs = [x, .ref tp] ∧ H tp = some (.tup (tys.map (tyW G))) ∧ rPn G pn (pr G.T (.isi tys)) [x] H Q) := by
  intro pins s σ H xs us Q I r ⟨x, tp, e, hT, h⟩
  subst e
  obtain ⟨O, d, b, ra, hk, hn, e1, _, q⟩ := isi_get h
  obtain ⟨u1, u2, rfl, r1, r2⟩ := vals2 r
  cases (show u2 = Value.ref tp from r2)
  obtain ⟨t, ht⟩ := tyAny_kind e1 hn
  obtain ⟨hi, hx⟩ := okKind_ins hk
  obtain ⟨P, Z, p, hu⟩ := kind_val hK F hpn I r1 ra ht hi hx
  obtain ⟨_, its, rv, o, h1, h2, n, h3⟩ := (show ObjOk X.prog X.w H s.heap tp (.tup (tys.map (tyW G))) from I.hok tp _ hT)
  have cl : ∀ tys : List Ty, Paired ClsV (tys.map (tyW G)) (tys.map (tyU G)) := fun tys => by
    induction tys with
    | nil => exact .nil
    | cons a r ih => exact .cons (tyW_cls a) ih
  have e3 := ClsV.all (cl tys) rv
  subst e3
  obtain ⟨oc, od, dt, sl⟩ := o
  simp only at h2 h3
  subst h2 h3
  exact PySem.W.kia_tup Z I.kIn p h1 (kit_any F hk ht e1) hu fun tk => ⟨.bl b, H, I.tok tk, rfl, q H (Ext.refl H)⟩
theorem r_isi1 {x : Str} {ty : Ty} {e te : Expr} {c : CA} {q : Pos} (hK : X.K = G.K) (hT : C.T = G.T) (F : KF X.K G) (hpn : ∀ p ∈ pn, p ∈ X.pn ∧ PinF p) (hg : Gl X "isinstance") (hm : X.mg "isinstance" = none) (he : DA X G pn W e (eva C c)) (ht : PE X te (tC (tyW G ty)))
    (hs : starEach [e, te] X.env = (false, eval e X.env) :: starEach [te] X.env) (hs2 : starEach [te] X.env = (false, eval te X.env) :: starEach [] X.env) (hpl : (backTo pos (starEach [te] X.env)).any (·.1) = false) : DE X G pn W (.Call (.Name "isinstance" q) [e, te] [] pos) (ev C (.pr (.isi [ty]) (.cons c .nil))) :=
  PE.imp (pe_callB (call_is1 hK F hpn ty) hg hm boot_isinstance (pa_cons he (pa_cons ht pa_nil hs2) hs) (by decide) (by decide) hs hpl) fun σ H Q h => by
    obtain ⟨Of, ρ, S, hp⟩ := prim_one (by rw [ev_pr hT] at h; exact h)
    exact ⟨Of, ρ, S, PostG.mono hp fun v H1 r => ⟨v, rfl, r⟩⟩
theorem r_isiT {tys : List Ty} {e : Expr} {tes : List Expr} {c : CA} {q tp : Pos} {kk : Nat} {tt : TA} (hK : X.K = G.K) (hT : C.T = G.T) (F : KF X.K G) (hpn : ∀ p ∈ pn, p ∈ X.pn ∧ PinF p) (hg : Gl X "isinstance") (hm : X.mg "isinstance" = none) (he : DA X G pn W e (eva C c)) (ht : PA X tes tt) (htt : ∀ σ H Q, Q (tys.map (tyW G)) H → tt σ H Q) (hl : tys.length ≤ 1000)
    (hs : starEach [e, .Tuple tes kk tp] X.env = (false, eval e X.env) :: starEach [.Tuple tes kk tp] X.env) (hs2 : starEach [.Tuple tes kk tp] X.env = (false, eval (.Tuple tes kk tp) X.env) :: starEach [] X.env) (hpl : (backTo pos (starEach [.Tuple tes kk tp] X.env)).any (·.1) = false) :
    DE X G pn W (.Call (.Name "isinstance" q) [e, .Tuple tes kk tp] [] pos) (ev C (.pr (.isi tys) (.cons c .nil))) :=
  PE.imp (pe_callB (call_isT' hK F hpn tys) hg hm boot_isinstance (pa_cons he (pa_cons (pe_tup (pos := tp) ht) pa_nil hs2) hs) (by decide) (by decide) hs hpl) fun σ H Q h => by
    obtain ⟨Of, ρ, S, hp⟩ := prim_one (by rw [ev_pr hT] at h; exact h)
    refine ⟨Of, ρ, S, PostG.mono hp fun v H1 r => htt σ H1 _ ⟨by rw [List.length_map, sizeLine_eq]; omega, fun p hp => ⟨v, p, rfl, upd_same, ?_⟩⟩⟩
    obtain ⟨O, d, b, ra, hk, hn, e1, hO, q⟩ := isi_get r
    refine ⟨O, [d], .bl b, fun a z => ?_, .cons (ra.grow (Ext.new hp)) .nil, ?_, fun w H' x n => ?_⟩
    · cases e : H1 a with
      | none => exact absurd e (hO a z)
      | some o => rw [Ext.new hp a o e]; simp
    · show (if okKind G.T d && !tys.isEmpty then (tyAny G.T d tys).map D.bl else none) = some (.bl b)
      have : tys.isEmpty = false := by
        cases tys with
        | nil => exact absurd rfl hn
        | cons _ _ => rfl
      rw [hk, this, e1]
      rfl
    · have := n.1 rfl
      cases (show w = .bl b from this)
      exact q H' ((Ext.new hp).trans x)
end
end PI
/-! PI, part q: a def keeps what its body computes. -/
namespace PI
open PySem PySem.Spec L2 PyProof.Rows
section
variable {G : Txt} {pn : List (Addr × Obj)} {W : WX} {C : Ctx} {H H' : Hp} {ρ ρ' : Env} {σ σ' : L2.St} {ds : List D} {vs : List V} {O A : Addr → Prop}
theorem outsOf_get : ∀ {ds : List D} {k : Nat} {outs : List (Option D)}, outsOf ρ k ds = some outs → outs.length = ds.length ∧ ∀ (j : Nat) (d : D), ds[j]? = some d → (d.own = true → ∃ x, outs[j]? = some (some x) ∧ rdS ρ (k + j) = some x ∧ x.own = true) ∧ (d.own = false → outs[j]? = some none)
  | [], k, outs, e => by
    cases e
    exact ⟨rfl, fun j d h => by simp at h⟩
  | d :: ds, k, outs, e => by
    unfold outsOf at e
    split at e
    · rename_i ho
      cases e1 : rdS ρ k with
      | none => simp only [e1] at e; cases e
      | some x =>
        simp only [e1] at e
        split at e
        · rename_i hx
          cases e2 : outsOf ρ (k + 1) ds with
          | none => rw [e2] at e; cases e
          | some r =>
            rw [e2] at e
            cases e
            obtain ⟨h1, h2⟩ := outsOf_get e2
            refine ⟨by simp [h1], fun j d' h => ?_⟩
            cases j with
            | zero =>
              have h' : d = d' := by simpa using h
              subst h'
              exact ⟨fun _ => ⟨x, by simp, e1, hx⟩, fun z => by rw [ho] at z; cases z⟩
            | succ j =>
              have := h2 j d' (by simpa using h)
              rw [show k + (j + 1) = k + 1 + j by omega]
              simpa using this
        · cases e
    · rename_i ho
      cases e2 : outsOf ρ (k + 1) ds with
      | none => rw [e2] at e; cases e
      | some r =>
        rw [e2] at e
        cases e
        obtain ⟨h1, h2⟩ := outsOf_get e2
        refine ⟨by simp [h1], fun j d' h => ?_⟩
        cases j with
        | zero =>
          have h' : d = d' := by simpa using h
          subst h'
          exact ⟨fun z => absurd z ho, fun _ => by simp⟩
        | succ j =>
          have := h2 j d' (by simpa using h)
          rw [show k + (j + 1) = k + 1 + j by omega]
          simpa using this
theorem ioOk_get {io : List Nat} : ∀ {ds : List D} {k j : Nat} {d : D}, ioOk io k ds = true → ds[j]? = some d → d.own = true → k + j ∈ io
  | [], k, j, d, _, h, _ => by simp at h
  | x :: ds, k, j, d, e, h, ho => by
    unfold ioOk at e
    rw [Bool.and_eq_true] at e
    cases j with
    | zero =>
      have h' : x = d := by simpa using h
      subst h'
      have := e.1
      rw [ho] at this
      simpa using this
    | succ j =>
      have := ioOk_get (k := k + 1) (j := j) e.2 (by simpa using h) ho
      rw [show k + (j + 1) = k + 1 + j by omega]
      exact this
/-- the def's frame at its entry -/
theorem SR.start {N : List Str} {n : Nat} (S : SR G pn O H (argE ds) (argS vs)) (hn : n = N.length - vs.length) : SR G pn O H (ds.map some ++ List.replicate n none) (L2.start N vs) := by
  have hl : ds.length = vs.length := by simpa using S.len
  have get : ∀ {i : Nat} {d : D}, rdS (ds.map some ++ List.replicate n none) i = some d → rdS (argE ds) i = some d := fun {i d} e => by
    rw [rdS_some] at e ⊢
    by_cases h : i < ds.length
    · rw [List.getElem?_append_left (by simpa using h)] at e
      exact e
    · rw [List.getElem?_append_right (by simpa using h), List.getElem?_replicate] at e
      split at e <;> cases e
  have put : ∀ {i : Nat} {v : V}, (argS vs)[i]? = some (some v) → (L2.start N vs)[i]? = some (some v) := fun {i v} e => by
    have h : i < vs.length := by
      have := (List.getElem?_eq_some_iff.mp e).1
      simpa using this
    unfold L2.start
    rw [List.getElem?_append_left (by simpa using h)]
    exact e
  have own : ∀ {i : Nat} {a : Addr}, OwnA (ds.map some ++ List.replicate n none) (L2.start N vs) i a → OwnA (argE ds) (argS vs) i a := fun {i a} h => by
    obtain ⟨d, h1, h2⟩ := ownAt_true h.1
    have h3 := get h1
    obtain ⟨v, h4, _⟩ := S.rel i d h3
    have h5 := put h4
    rw [h.2] at h5
    cases h5
    exact ⟨by rw [ownAt_some h3]; exact h2, h4⟩
  have lo : ∀ a, Lo (ds.map some ++ List.replicate n none) (L2.start N vs) a → Lo (argE ds) (argS vs) a := fun a ⟨i, h⟩ => ⟨i, own h⟩
  refine ⟨?_, fun i d e => ?_, fun i j a h1 h2 => S.inj i j a (own h1) (own h2), fun a q => S.dis a (lo a q), S.oft, S.tab⟩
  · unfold L2.start
    simp [hl, hn]
  · obtain ⟨v, h1, h2, h3⟩ := S.rel i d (get e)
    have le : ∀ b, Oo O (ds.map some ++ List.replicate n none) (L2.start N vs) b → Oo O (argE ds) (argS vs) b := fun b q => q.imp id (lo b)
    exact ⟨v, put h1, h2.mono Kp.refl (fun b q => .inl (le b q)) (fun _ _ _ _ z => z) h3, fun z => (h3 z).less le⟩
/-- at the def's end: the arguments' frame -/
structure EndF (G : Txt) (pn : List (Addr × Obj)) (O A : Addr → Prop) (H H' : Hp) (ρ : Env) (σ : L2.St) (ds : List D) (vs : List V) (outs : List (Option D)) : Prop where
  S : SR G pn O H (argE ds) (argS vs)
  o : outsOf ρ 0 ds = some outs
  same : ∀ (j : Nat) (d : D), ds[j]? = some d → d.own = true → σ[j]? = (argS vs)[j]?
  kp : Kp (Lo (argE ds) (argS vs)) H H'
  E : SR G pn (fun b => O b ∨ A b) H' ρ σ
  new : ∀ a, A a → H a = none
theorem EndF.get {outs : List (Option D)} (F : EndF G pn O A H H' ρ σ ds vs outs) {j : Nat} {x : D} (h : rdS (putA ds outs) j = some x) : ∃ d, ds[j]? = some d ∧ ((d.own = true ∧ outs[j]? = some (some x) ∧ rdS ρ j = some x ∧ x.own = true) ∨ (d.own = false ∧ x = d)) := by
  obtain ⟨hl, hg⟩ := outsOf_get F.o
  rw [rdS_some] at h
  unfold putA at h
  rw [List.getElem?_zipWith] at h
  cases e1 : ds[j]? with
  | none => rw [e1] at h; cases h
  | some d =>
    rw [e1] at h
    refine ⟨d, rfl, ?_⟩
    obtain ⟨g1, g2⟩ := hg j d e1
    cases ho : d.own with
    | true =>
      obtain ⟨y, k1, k2, k3⟩ := g1 ho
      rw [k1] at h
      cases h
      rw [Nat.zero_add] at k2
      exact .inl ⟨rfl, k1, k2, k3⟩
    | false =>
      rw [g2 ho] at h
      cases h
      exact .inr ⟨rfl, rfl⟩
theorem EndF.so {outs : List (Option D)} (F : EndF G pn O A H H' ρ σ ds vs outs) : SameOwn (argE ds) (putA ds outs) := fun j => by
  obtain ⟨hl, hg⟩ := outsOf_get F.o
  cases e : rdS (putA ds outs) j with
  | some x =>
    obtain ⟨d, h1, h2⟩ := F.get e
    rw [ownAt_some e, ownAt_some (argE_get.mpr h1)]
    rcases h2 with ⟨h2, _, _, h3⟩ | ⟨h2, h3⟩
    · rw [h2, h3]
    · rw [h3]
  | none =>
    have : rdS (argE ds) j = none := by
      cases e2 : rdS (argE ds) j with
      | none => rfl
      | some d =>
        rw [argE_get] at e2
        have hj : j < outs.length := by
          rw [hl]
          exact (List.getElem?_eq_some_iff.mp e2).1
        have e3 : rdS (putA ds outs) j = some ((outs[j]).getD d) := by
          rw [rdS_some]
          unfold putA
          rw [List.getElem?_zipWith, e2, List.getElem?_eq_getElem hj]
        rw [e] at e3
        cases e3
    unfold ownAt
    rw [e, this]
theorem EndF.own {outs : List (Option D)} (F : EndF G pn O A H H' ρ σ ds vs outs) {j : Nat} {a : Addr} (h : OwnA (putA ds outs) (argS vs) j a) : OwnA ρ σ j a := by
  obtain ⟨x, h1, h2⟩ := ownAt_true h.1
  obtain ⟨d, h3, h4⟩ := F.get h1
  rcases h4 with ⟨h4, _, h5, h6⟩ | ⟨h4, h5⟩
  · exact ⟨by rw [ownAt_some h5]; exact h6, by rw [F.same j d h3 h4]; exact h.2⟩
  · rw [h5, h4] at h2
    cases h2
theorem EndF.lo {outs : List (Option D)} (F : EndF G pn O A H H' ρ σ ds vs outs) {a : Addr} (h : Lo (putA ds outs) (argS vs) a) : Lo ρ σ a := let ⟨j, h⟩ := h; ⟨j, F.own h⟩
theorem EndF.sr {outs : List (Option D)} (F : EndF G pn O A H H' ρ σ ds vs outs) : SR G pn (fun b => O b ∨ A b) H' (putA ds outs) (argS vs) := by
  have hl : ds.length = vs.length := by simpa using F.S.len
  obtain ⟨ho, _⟩ := outsOf_get F.o
  have le : ∀ b, Oo (fun b => O b ∨ A b) (putA ds outs) (argS vs) b → Oo (fun b => O b ∨ A b) ρ σ b := fun b q => q.imp id F.lo
  refine ⟨?_, fun j x e => ?_, fun i j a h1 h2 => F.E.inj i j a (F.own h1) (F.own h2), fun a q => F.E.dis a (F.lo q), F.E.oft, F.E.tab⟩
  · unfold putA
    rw [List.length_zipWith, List.length_map, ho, Nat.min_self, hl]
  · obtain ⟨d, h1, h2⟩ := F.get e
    obtain ⟨v, k1, k2, k3⟩ := F.S.rel j d (argE_get.mpr h1)
    rcases h2 with ⟨h2, _, h3, h4⟩ | ⟨h2, rfl⟩
    · obtain ⟨v', m1, m2, m3⟩ := F.E.rel j x h3
      rw [F.same j d h1 h2, k1] at m1
      cases m1
      exact ⟨v, k1, m2.mono Kp.refl (fun b q => .inl (le b q)) (fun _ _ _ _ z => z) m3, fun z => by rw [h4] at z; cases z⟩
    · have r : RelD G pn (Oo (fun b => O b ∨ A b) (putA ds outs) (argS vs)) H' x v := by
        refine RelD.mono (F.kp.mono fun b q => .inr q) (fun b q => ?_) x v (k3 h2)
        rcases q with (q | q) | q
        · exact .inl (.inl q)
        · exact .inr (F.new b q)
        · rw [F.so.lo] at q
          exact .inl (.inr q)
      exact ⟨v, k1, r.body, fun _ => r⟩
end
section
variable {G : Txt} {pn : List (Addr × Obj)} {W : WX} {C : Ctx} {H H' : Hp} {ds : List D} {vs : List V} {O : Addr → Prop}
/-- the body's end is the call's -/
theorem body_end {d : Fn} {Nn : List Str} {Q : VK} {E : XK} (hn : d.n - d.ps = Nn.length - vs.length) (S : SR G pn O H (argE ds) (argS vs)) (h : PostG G pn (fun c dd _ H' => E c dd H') (ValR G pn) O H (argE ds) (argS vs) (outF ds (bodyF C d ds)) Q) :
    ∃ N : Ent, N.fix = d.io ∧ tS G pn (fun c dd _ H' => E c dd H') N (runs C d.body) { nx := fun _ H' => Q .non H', rt := Q } (L2.start Nn vs) H := by
  have hl : ds.length = vs.length := by simpa using S.len
  unfold bodyF at h
  split at h
  · rename_i hc
    rw [Bool.and_eq_true, decide_eq_true_eq] at hc
    refine ⟨⟨Lo (argE ds) (argS vs), H, d.io, L2.start Nn vs, O⟩, rfl, startE d ds, ⟨S.start hn, Kp.refl, fun a q => .inl ?_, fun _ _ => rfl, fun a q z => ?_, S.dis, fun a q z => ?_⟩, ?_⟩
    · have S1 := S.start (N := Nn) hn
      obtain ⟨i, d', e1, e2, e3, _⟩ := S1.own q
      have h3 : rdS (argE ds) i = some d' := by
        rw [rdS_some] at e1 ⊢
        by_cases hi : i < ds.length
        · rw [List.getElem?_append_left (by simpa using hi)] at e1
          exact e1
        · rw [List.getElem?_append_right (by simpa using hi), List.getElem?_replicate] at e1
          split at e1 <;> cases e1
      obtain ⟨v, h4, _⟩ := S.rel i d' h3
      have hi : i < vs.length := by
        have := (List.getElem?_eq_some_iff.mp h4).1
        simpa using this
      have h5 : (L2.start Nn vs)[i]? = (argS vs)[i]? := by
        unfold L2.start
        rw [List.getElem?_append_left (by simpa using hi)]
      exact ⟨i, by rw [ownAt_some h3]; exact e2, by rw [← h5]; exact e3⟩
    · obtain ⟨o, e, _⟩ := S.lot q
      rw [z] at e
      cases e
    · obtain ⟨o, e, _⟩ := S.oft a q
      have z : H a = none := z
      rw [z] at e
      cases e
    · have sm : ∀ {ρ' : Env} {σ' : L2.St} {H' : Hp}, StOk G pn ⟨Lo (argE ds) (argS vs), H, d.io, L2.start Nn vs, O⟩ H' ρ' σ' → ∀ (j : Nat) (x : D), ds[j]? = some x → x.own = true → σ'[j]? = (argS vs)[j]? := fun {ρ' σ' H'} s j x e ho => by
        have hj := ioOk_get (k := 0) hc.2 e ho
        rw [Nat.zero_add] at hj
        rw [s.fx j hj]
        have hi : j < vs.length := by
          rw [← hl]
          exact (List.getElem?_eq_some_iff.mp e).1
        show (L2.start Nn vs)[j]? = _
        unfold L2.start
        rw [List.getElem?_append_left (by simpa using hi)]
      cases er : runs C d.body (startE d ds) with
      | stuck => rw [er] at h; exact (show False from h).elim
      | exc x ρ' =>
        rw [er] at h
        intro σ' H' cls dd s r
        cases eo : outsOf ρ' 0 ds with
        | none => simp only [finF, eo] at h; exact (show False from h).elim
        | some outs =>
          simp only [finF, eo] at h
          obtain ⟨ho, _⟩ := outsOf_get eo
          rw [show outF ds (.exc x outs) = .exc x (putA ds outs) from if_pos ho] at h
          have F : EndF G pn O (fun _ => False) H H' ρ' σ' ds vs outs := ⟨S, eo, sm s, s.kp, s.S.less fun a q => q.elim id False.elim, fun _ z => z.elim⟩
          refine h H' cls dd s.kp F.so (F.sr.less fun a q => .inl q) ?_
          obtain ⟨K, vs', c, e1, hT, ec, r⟩ := r
          refine ⟨K, vs', c, e1, hT, ec, r.imp id fun ⟨dx, ws, fs, ed, h1, h2, h3, h4, h5⟩ => ⟨dx, ws, fs, ed, fun q => h1 (q.imp id F.lo), h2, h3, h4, RelDs.less h5 fun b q => q.imp id F.lo⟩⟩
      | ok f ρ' =>
        rw [er] at h
        cases eo : outsOf ρ' 0 ds with
        | none => simp only [finF, eo] at h; exact (show False from h).elim
        | some outs =>
          simp only [finF, eo] at h
          obtain ⟨ho, _⟩ := outsOf_get eo
          cases f with
          | bk => exact (show False from h).elim
          | ct => exact (show False from h).elim
          | nx =>
            intro σ' H' s
            rw [show outF ds (.ok .non outs) = .ok .non (putA ds outs) from if_pos ho] at h
            have F : EndF G pn O (fun _ => False) H H' ρ' σ' ds vs outs := ⟨S, eo, sm s, s.kp, s.S.less fun a q => q.elim id False.elim, fun _ z => z.elim⟩
            exact h .non H' s.kp F.so (F.sr.less fun a q => .inl q) (ValR.of (show RelD G pn _ H' .non .non from rfl))
          | rt x =>
            intro v σ' H' s r
            rw [show outF ds (.ok x outs) = .ok x (putA ds outs) from if_pos ho] at h
            have F : EndF G pn O (fun _ => False) H H' ρ' σ' ds vs outs := ⟨S, eo, sm s, s.kp, s.S.less fun a q => q.elim id False.elim, fun _ z => z.elim⟩
            refine h v H' s.kp F.so (F.sr.less fun a q => .inl q) ⟨fun z => (r.1 z).less fun b q => q.imp id F.lo, fun z => ?_⟩
            obtain ⟨a, ev, ha, S2, hb⟩ := r.2 z
            have hn0 : H a = none := ha.elim (fun q => absurd (F.lo (by rw [F.so.lo]; exact q)) fun q2 => S2.dis a q2 (.inr rfl)) id
            have F2 : EndF G pn O (fun b => b = a) H H' ρ' σ' ds vs outs := ⟨S, eo, sm s, s.kp, S2, fun b z => by rw [z]; exact hn0⟩
            refine ⟨a, ev, hn0, F2.sr, hb.mono Kp.refl (fun b q => .inl (q.imp id F2.lo)) (fun _ _ _ _ z => z) fun z' => by rw [z] at z'; cases z'⟩
  · exact (show False from h).elim
end
end PI
/-! PI, part r: the promise of a def of the text. -/
namespace PI
open PySem PySem.Spec L2 PyProof.Rows
theorem guards_deeper {A : Around} {env : PySem.Env} (h : A.guards = some []) : (A.deeper env).guards = some [] := h
section
variable {P : Program} {w : World} {K : PySem.W.Frag} {mg : Str → Option Value} {base : Heap} {G : Txt}
/-- a def by its body -/
theorem fni_of {k : Nat} {f : Addr} {name qual : Str} {params : Arguments} {body : List Stmt} {scope : Scope} {dV kV doc pm cdv ct oc : Value} {an od : Option Addr} {osl : Array (Option Value)} {Nn ps : List Str} {C : Ctx} {d : Fn} {hot : Bool}
    (lk : K.lookup f = some ⟨oc, od, .func (PySem.W.fnOf name qual params body scope dV kV doc pm an cdv ct), osl⟩) (hcd : PySem.W.codeIn K cdv qual = true) (Sc : FnScope Nn ps scope) (hps : d.ps = ps.length) (hn : d.n = Nn.length)
    (hb : ∀ (A : Around) (outer : List PySem.Env) (s : Shared) (H : Hp) (E : XK) (N : Ent), Room k (A.deeper (envOfC qual scope s.heap.objs.size f cdv)) → A.guards = some [] → N.fix = d.io →
      DSs (cxOf (L2.CX P w) P w K mg base Nn qual scope f cdv A outer s H E) G [] (fun c dd _ H' => E c dd H') N body (runs C d.body))
    (hbH : hot = true → ∀ (A : Around) (outer : List PySem.Env) (s : Shared) (H : Hp) (E : XK) (p : Addr × Obj) (N : Ent), L2H.RoomH k (A.deeper (envOfC qual scope s.heap.objs.size f cdv)) → A.guards = some [] → PinF p → N.fix = d.io →
      DSs (L2H.cxH (L2.CX P w) P w K mg base Nn qual scope f cdv A outer s H E p) G [p] (fun c dd _ H' => E c dd H') N body (runs C d.body)) :
    FnI P w K mg base G hot (k + 1) f (PySem.W.fnOf name qual params body scope dV kV doc pm an cdv ct) ps (bodyF C d) := by
  have len : ∀ ds, bodyF C d ds ≠ .stuck → ds.length = ps.length := fun ds h => by
    unfold bodyF at h
    split at h
    · rename_i hc
      rw [Bool.and_eq_true, decide_eq_true_eq] at hc
      rw [hc.1, hps]
    · exact absurd rfl h
  refine ⟨len, fun A outer s H args us vs Q E hr hgd e0 hbd r hsp => ?_, fun hh A outer s H args us vs Q E p hr hgd pf hpin e0 hbd r hsp => ?_⟩
  · have hl := SpI.len len hsp
    have KX : K.In s.heap := e0.mod.kin.keeps fun b o e => (e0.bs b o e).1
    have lim : s.heap.NoLimit := e0.mod.nolimit.keeps fun b o e => (e0.bs b o e).1
    have hkind : ∀ y ∈ ps.zip us, scope.names.lookup y.1 = some .local ∨
        (scope.names.lookup y.1 = some .cell ∧ ((cellsFrom (s.heap.objs.size + 1) scope.names []).lookup y.1).isSome = true) := fun ⟨n, v⟩ hy =>
      (Sc.par n (List.of_mem_zip hy).1).imp id fun q => ⟨q, PySem.W.cellsFrom_some _ _ _ (.inl q)⟩
    refine codeAny_call_function hr.depth (KX _ _ lk) rfl Sc.co Sc.gen rfl
      (PySem.W.codeRec_of KX hcd) (hbd _ _ _ _ ?_)
    refine wpAny_newFunctionEnv_cells Sc.kind hkind fun env he s1 x => ?_
    subst he
    refine ⟨lim.keeps x.toInCall.keep, codeAny_func ?_⟩
    have hsp' := hsp
    obtain ⟨O, ds, S, hp⟩ := hsp'
    obtain ⟨N, hN, ht⟩ := body_end (Nn := Nn) (by rw [hn, hps, hl]) S hp
    have I : L2.Inv (cxOf (L2.CX P w) P w K mg base Nn qual scope f cdv A outer s H E) [] (L2.start Nn vs) H s1 := inv_start Sc hr.hd e0 hl r x
    refine wpAny_mono ((hb A outer s H E N (hr.deeper _) hgd hN).run [] s1 (L2.start Nn vs) H _ I ht)
      (fun fl s' hs => ?_) fun e s' hs => hs
    cases fl with
    | ret u =>
      obtain ⟨v, σ', H', J, rv, q⟩ := hs
      exact ⟨v, H', J.os, J.bare, J.base, J.hok, rv, q⟩
    | next =>
      obtain ⟨σ', H', J, q⟩ := hs
      exact ⟨V.non, H', J.os, J.bare, J.base, J.hok, rfl, q⟩
    | brk => exact False.elim hs.choose_spec.choose_spec.2
    | cont => exact False.elim hs.choose_spec.choose_spec.2
  · have hl := SpI.len len hsp
    have KX : K.In s.heap := e0.mod.kin.keeps fun b o e => (e0.bs b o e).1
    have lim : s.heap.NoLimit := e0.mod.nolimit.keeps fun b o e => (e0.bs b o e).1
    have hkind : ∀ y ∈ ps.zip us, scope.names.lookup y.1 = some .local ∨
        (scope.names.lookup y.1 = some .cell ∧ ((cellsFrom (s.heap.objs.size + 1) scope.names []).lookup y.1).isSome = true) := fun ⟨n, v⟩ hy =>
      (Sc.par n (List.of_mem_zip hy).1).imp id fun q => ⟨q, PySem.W.cellsFrom_some _ _ _ (.inl q)⟩
    refine codeAny_call_function hr.depth (KX _ _ lk) rfl Sc.co Sc.gen rfl
      (PySem.W.codeRec_of KX hcd) (hbd _ _ _ _ ?_)
    refine wpAny_newFunctionEnv_cells Sc.kind hkind fun env he s1 x => ?_
    subst he
    refine ⟨lim.keeps x.toInCall.keep, codeAny_func ?_⟩
    have hsp' := hsp
    obtain ⟨O, ds, S, hp⟩ := hsp'
    obtain ⟨N, hN, ht⟩ := body_end (Nn := Nn) (by rw [hn, hps, hl]) S hp
    have I : L2.Inv (L2H.cxH (L2.CX P w) P w K mg base Nn qual scope f cdv A outer s H E p) [] (L2.start Nn vs) H s1 := L2H.inv_startH Sc hpin e0 hl r x
    refine wpAny_mono ((hbH hh A outer s H E p N (hr.deeper _) hgd pf hN).run [] s1 (L2.start Nn vs) H _ I ht)
      (fun fl s' hs => ?_) fun e s' hs => hs
    cases fl with
    | ret u =>
      obtain ⟨v, σ', H', J, rv, q⟩ := hs
      exact ⟨v, H', J.os, J.bare, J.base, J.hok, rv, q⟩
    | next =>
      obtain ⟨σ', H', J, q⟩ := hs
      exact ⟨V.non, H', J.os, J.bare, J.base, J.hok, rfl, q⟩
    | brk => exact False.elim hs.choose_spec.choose_spec.2
    | cont => exact False.elim hs.choose_spec.choose_spec.2
end
end PI
/-! PI, part s: dicts written out, objects made. -/
namespace PI
open PySem PySem.Spec L2 PyProof.Rows
section
variable {X : Cx} {G : Txt} {pn : List (Addr × Obj)} {W : WX} {C : Ctx} {pos : Pos} {H H1 H' : Hp} {ρ ρ1 ρ' : Env} {σ : L2.St}
/-- the values of a display, the keys beside them -/
inductive Disp (X : Cx) (G : Txt) (pn : List (Addr × Obj)) (W : WX) (C : Ctx) (pos : Pos) : List (Option Expr) → List Expr → List Str → CEs → List (TE × TE) → Prop where
  | nil : Disp X G pn W C pos [] [] [] .nil []
  | cons {k : Str} {v : Expr} {c : CE} {ks : List (Option Expr)} {vs : List Expr} {zs : List Str} {cs : CEs} {trs : List (TE × TE)} {p : Pos} {j : Nat} (hv : DA X G pn W v (eva C (.ex c))) (t : Disp X G pn W C pos ks vs zs cs trs) :
      Disp X G pn W C pos (some (.Constant (.str k) j p) :: ks) (v :: vs) (k :: zs) (.cons (.ex c) cs) ((tC (.str k), tG G pn W (ArR G pn) (eva C (.ex c))) :: trs)
theorem Disp.pps {ks : List (Option Expr)} {vs : List Expr} {zs : List Str} {cs : CEs} {trs : List (TE × TE)} (d : Disp X G pn W C pos ks vs zs cs trs) : PPs X pos ks vs trs := by
  induction d with
  | nil => exact pps_nil
  | cons hv t ih => exact pps_cons pe_str hv ih
theorem Disp.red {ks : List (Option Expr)} {vs : List Expr} {zs : List Str} {cs : CEs} {trs : List (TE × TE)} (d : Disp X G pn W C pos ks vs zs cs trs) : ∀ {H : Hp} {Q : List (V × V) → Hp → Prop} {Of : Addr → Prop} {ρ : Env}, SR G pn Of H ρ σ →
    PostG G pn W (ArsR G pn) Of H ρ σ (evs C cs ρ) (fun ws H1 => Q ((zs.map V.str).zip ws) H1) → tPairs trs σ H Q := by
  induction d with
  | nil =>
    intro H Q Of ρ S h
    unfold evs at h
    have r := PostG.now (Q := fun ws H1 => Q ((([] : List Str).map V.str).zip ws) H1) (b := []) S (show ArsR G pn Of ρ σ H H [] [] from .nil) h
    exact r
  | cons hv t ih =>
    intro H Q Of ρ S h
    unfold evs at h
    refine ⟨Of, ρ, S, PostG.mono (PostG.bind (R1 := ArR G pn) back_ars h) fun v H1 ⟨x, ρ1, _, k, s, S1, r, q⟩ => ?_⟩
    refine ih S1 ?_
    refine PostG.mono (PostG.bind (R1 := ArsR G pn) back_ars q) fun ws H2 ⟨xs, ρ2, _, k2, s2, S2, r2, q2⟩ => ?_
    exact PostG.now (b := v :: ws) S2 (show ArsR G pn Of ρ2 σ H2 H2 (x :: xs) (v :: ws) from .cons (ArR.step r k2 s2) r2) q2
theorem Disp.len {ks : List (Option Expr)} {vs : List Expr} {zs : List Str} {cs : CEs} {trs : List (TE × TE)} (d : Disp X G pn W C pos ks vs zs cs trs) : ks.length = zs.length ∧ vs.length = zs.length ∧ ks.all (·.isSome) = true := by
  induction d with
  | nil => exact ⟨rfl, rfl, rfl⟩
  | cons hv t ih => exact ⟨by simp [ih.1], by simp [ih.2.1], by simp [ih.2.2]⟩
theorem putK_new {kvs : List (Key × V)} {k : Key} {v : V} (h : k ∉ kvs.map (·.1)) : putK kvs k v = kvs ++ [(k, v)] := by
  unfold putK
  rw [if_neg]
  intro z
  obtain ⟨p, h1, h2⟩ := List.any_eq_true.mp z
  exact h (List.mem_map.mpr ⟨p, h1, of_decide_eq_true h2⟩)
theorem merge_new : ∀ {more kvs : List (Key × V)}, (more.map (·.1)).Nodup → (∀ k ∈ more.map (·.1), k ∉ kvs.map (·.1)) → mergeK kvs more = kvs ++ more
  | [], kvs, _, _ => by simp [mergeK]
  | p :: r, kvs, n, h => by
    rw [List.map_cons, List.nodup_cons] at n
    show mergeK (putK kvs p.1 p.2) r = _
    rw [putK_new (h p.1 (List.mem_cons_self ..)), merge_new n.2 (fun k hk z => ?_)]
    · simp
    · rw [List.map_append, List.mem_append] at z
      rcases z with z | z
      · exact h k (List.mem_cons_of_mem _ hk) z
      · have e : k = p.1 := by simpa using z
        subst e
        exact n.1 hk
theorem keys_rel {O : Addr → Prop} : ∀ {zs : List Str} {ws : List V}, ws.length = zs.length → RelDs G pn O H (zs.map D.str) (((zs.map fun z => (Sum.inr z : Key)).zip ws).map fun p => kV p.1)
  | [], ws, _ => by simp [RelDs]
  | z :: zs, [], h => by cases h
  | z :: zs, w :: ws, h => by
    rw [List.map_cons, List.map_cons, List.zip_cons_cons, List.map_cons]
    exact .cons (show RelD G pn O H (.str z) (.str z) from rfl) (keys_rel (by simpa using h))
/-- another's thing changes -/
theorem SR.poke {Of : Addr → Prop} {p : Addr} {old nw : HO} (S : SR G pn Of H ρ σ) (hp : Of p) (hH : H p = some old) (ho : Thing old) (hn : Thing nw) : SR G pn Of (upd H p nw) ρ σ := by
  have kk : Kp (Oo Of ρ σ) H (upd H p nw) := ⟨fun b u e n _ => by
    have nb : b ≠ p := fun z => n (by rw [z]; exact .inl hp)
    rw [upd_ne nb]
    exact e, fun b ps e => by
    have nb : b ≠ p := fun z => by
      rw [z, hH] at e
      cases e
      exact ho
    exact ⟨ps, by rw [upd_ne nb]; exact e⟩⟩
  refine ⟨S.len, fun i d e => ?_, S.inj, S.dis, fun b q => ?_, tabs_upd S.tab hH ho⟩
  · obtain ⟨v, h1, h2, h3⟩ := S.rel i d e
    refine ⟨v, h1, h2.mono kk (fun b q => .inl q) (fun a o ea hd e1 => ?_) h3, fun z => RelD.mono kk (fun b q => .inl q) d v (h3 z)⟩
    subst ea
    have na : a ≠ p := fun z => S.dis a ⟨i, by rw [ownAt_some e]; exact hd, h1⟩ (by rw [z]; exact hp)
    rw [upd_ne na]
    exact e1
  · obtain ⟨o, e, t⟩ := S.oft b q
    by_cases nb : b = p
    · subst nb
      exact ⟨nw, upd_same, hn.tbl⟩
    · exact ⟨o, by rw [upd_ne nb]; exact e, t⟩
theorem r_dict {ks : List (Option Expr)} {vs : List Expr} {zs : List Str} {cs : CEs} {trs : List (TE × TE)} (d : Disp X G pn W C pos ks vs zs cs trs) (h0 : ks ≠ []) (h15 : zs.length ≤ 15) : DE X G pn W (.Dict ks vs pos) (ev C (.dict zs cs)) := by
  refine PE.imp (pe_disp d.pps d.len.2.2 (by rw [d.len.1, d.len.2.1]) h0 (by rw [d.len.1]; exact h15)) fun σ H Q ⟨Of, ρ, S, hp⟩ p np => ?_
  unfold ev bd at hp
  have S1 : SR G pn (fun b => Of b ∨ b = p) (upd H p (.dK [])) ρ σ := S.fresh (Ext.new np) np upd_same (fun _ z => nomatch z)
  have npl : ¬ Lo ρ σ p := fun q => S1.dis p q (.inr rfl)
  refine d.red S1 ?_
  cases e : evs C cs ρ with
  | stuck => rw [e] at hp; exact hp
  | exc x ρ1 =>
    rw [e] at hp
    intro H' cls dd kp so S' r
    refine hp H' cls dd ((Kp.same (Ext.new np)).trans kp) so (S'.less fun a q => .inl q) ?_
    obtain ⟨K, vs', c, e1, hT, ec, r⟩ := r
    exact ⟨K, vs', c, e1, hT, ec, r.imp id fun ⟨dx, ws, fs, ed, h1, h2, h3, h4, h5⟩ => ⟨dx, ws, fs, ed, fun q => h1 (q.imp .inl id), h2, h3, h4, RelDs.less h5 fun b q => q.imp .inl id⟩⟩
  | ok as ρ1 =>
    rw [e] at hp
    simp only at hp
    intro ws H' kp so S' r
    split at hp
    · rename_i hc
      simp only [Bool.and_eq_true, decide_eq_true_eq] at hc
      cases ea : ardD as with
      | none => rw [ea] at hp; exact (show False from hp).elim
      | some ds =>
        rw [ea] at hp
        have hw : ws.length = zs.length := by
          have := Paired.length r
          omega
        have hpp : H' p = some (.dK []) := kp.keep p _ upd_same npl (fun _ z => nomatch z)
        have rel := ardD_ok r ea
        have ek : ((zs.map fun z => (Sum.inr z : Key)).zip ws).map (·.2) = ws := by
          rw [List.map_snd_zip]
          rw [List.length_map, hw]
          exact Nat.le_refl _
        have ek1 : ((zs.map fun z => (Sum.inr z : Key)).zip ws).map (·.1) = zs.map fun z => (Sum.inr z : Key) := by
          rw [List.map_fst_zip]
          rw [List.length_map, hw]
          exact Nat.le_refl _
        refine ⟨hpp, (zs.map fun z => (Sum.inr z : Key)).zip ws, ?_, by rw [List.length_zip, List.length_map]; omega, ?_⟩
        · rw [List.zip_map_left, List.zip_map_left, List.map_map]
          rfl
        · have nd : ((zs.map fun z => (Sum.inr z : Key)).zip ws |>.map (·.1)).Nodup := by
            rw [ek1]
            exact (List.pairwise_map.mpr (hc.1.1.imp fun h z => h (Sum.inr.inj z)))
          rw [merge_new nd (fun k _ z => by cases z), List.nil_append]
          have Sp := S'.poke (nw := .dK ((zs.map fun z => (Sum.inr z : Key)).zip ws)) (.inr rfl) hpp trivial trivial
          refine hp (.ref p) _ ⟨fun b o eb nl nt => ?_, fun b ps eb => ?_⟩ so (Sp.less fun a q => .inl q) ⟨(fun z => by cases z), fun _ => ⟨p, rfl, np, Sp, p, _, rfl, upd_same, ?_, ?_⟩⟩
          · have nb : b ≠ p := fun z => by rw [z, np] at eb; cases eb
            rw [upd_ne nb]
            exact kp.keep b o (by rw [upd_ne nb]; exact eb) nl nt
          · have nb : b ≠ p := fun z => by rw [z, np] at eb; cases eb
            obtain ⟨ps', e'⟩ := kp.tb b ps (by rw [upd_ne nb]; exact eb)
            exact ⟨ps', by rw [upd_ne nb]; exact e'⟩
          · exact keys_rel hw
          · rw [ek]
            exact rel.updO (.inl (.inr rfl)) hpp trivial
    · exact (show False from hp).elim
end
end PI
/-! PI, part t: comprehensions. -/
namespace PI
open PySem PySem.Spec L2 PyProof.Rows
section
variable {X : Cx} {G : Txt} {pn : List (Addr × Obj)} {W : WX} {C : Ctx} {pos : Pos} {H H1 H' : Hp} {ρ ρ1 ρ' : Env} {σ σ' : L2.St} {Of : Addr → Prop}
theorem StOk.of_sr (S : SR G pn Of H ρ σ) (fx : List Nat) : StOk G pn ⟨Lo ρ σ, H, fx, σ, Of⟩ H ρ σ where
  S := S
  kp := Kp.refl
  lo := fun a q => .inl q
  fx := fun _ _ => rfl
  th := fun a q z => by
    obtain ⟨o, e, _⟩ := S.lot q
    rw [z] at e
    cases e
  ol := S.dis
  oh := fun a q z => by
    obtain ⟨o, e, _⟩ := S.oft a q
    rw [show H a = none from z] at e
    cases e
theorem SR.wipe {own : List Nat} (S : SR G pn Of H ρ σ) : SR G pn Of H (wipeE ρ own) (L2.wipe σ own) := by
  induction own with
  | nil => exact S
  | cons i r ih => exact ih.clr
theorem wipeE_len {own : List Nat} : (wipeE ρ own).length = ρ.length := by
  induction own with
  | nil => rfl
  | cons i r ih =>
    show ((wipeE ρ r).set i none).length = _
    rw [List.length_set, ih]
theorem wipeE_out {own : List Nat} {i : Nat} (h : i ∉ own) : (wipeE ρ own)[i]? = ρ[i]? := by
  induction own with
  | nil => rfl
  | cons j r ih =>
    show ((wipeE ρ r).set j none)[i]? = _
    rw [List.getElem?_set_ne (fun z => h (by rw [z]; simp)), ih fun z => h (List.mem_cons_of_mem _ z)]
theorem wipeE_in {own : List Nat} {i : Nat} (h : i ∈ own) : rdS (wipeE ρ own) i = none := by
  induction own with
  | nil => cases h
  | cons j r ih =>
    unfold rdS
    show (match ((wipeE ρ r).set j none)[i]? with | some (some d) => some d | _ => none) = none
    by_cases e : j = i
    · subst e
      by_cases hl : j < (wipeE ρ r).length
      · rw [List.getElem?_set_self hl]
      · rw [List.getElem?_eq_none (by simpa using hl)]
    · rw [List.getElem?_set_ne e]
      exact ih ((List.mem_cons.mp h).resolve_left fun z => e z.symm)
/-- nothing of ours is forgotten -/
theorem wipe_own {own : List Nat} (h : own.any (ownAt ρ) = false) : SameOwn ρ (wipeE ρ own) := fun i => by
  by_cases e : i ∈ own
  · unfold ownAt
    rw [wipeE_in e]
    have : ownAt ρ i = false := by
      have := List.any_eq_false.mp h i e
      simpa using this
    unfold ownAt at this
    rw [this]
  · unfold ownAt rdS
    rw [wipeE_out e]
theorem wipe_lo {own : List Nat} {b : Addr} (h : Lo (wipeE ρ own) (L2.wipe σ own) b) : Lo ρ σ b := by
  induction own with
  | nil => exact h
  | cons i r ih => exact ih (clr_lo h)
theorem wipe_lo' {own : List Nat} {b : Addr} (ho : own.any (ownAt ρ) = false) (h : Lo ρ σ b) : Lo (wipeE ρ own) (L2.wipe σ own) b := by
  obtain ⟨i, h1, h2⟩ := h
  have hi : i ∉ own := fun z => by
    have := List.any_eq_false.mp ho i z
    exact this h1
  exact ⟨i, by rw [wipe_own ho i]; exact h1, by rw [L2.wipe_out hi]; exact h2⟩
theorem backE_len {own : List Nat} : (backE ρ ρ' own).length = ρ'.length := by
  induction own generalizing ρ' with
  | nil => rfl
  | cons i r ih =>
    unfold backE
    rw [ih]
    split
    · rw [List.length_set]
    · rfl
theorem backE_out {own : List Nat} {i : Nat} (h : i ∉ own) : (backE ρ ρ' own)[i]? = ρ'[i]? := by
  induction own generalizing ρ' with
  | nil => rfl
  | cons j r ih =>
    unfold backE
    rw [ih fun z => h (List.mem_cons_of_mem _ z)]
    split
    · rw [List.getElem?_set_ne (fun z => h (by rw [z]; simp))]
    · rfl
theorem backE_in {own : List Nat} {i : Nat} (hl : ρ'.length = ρ.length) (h : i ∈ own) : (backE ρ ρ' own)[i]? = ρ[i]? := by
  induction own generalizing ρ' with
  | nil => cases h
  | cons j r ih =>
    unfold backE
    have hl' : (match ρ[j]? with | some x => ρ'.set j x | none => ρ').length = ρ.length := by
      split
      · rw [List.length_set, hl]
      · exact hl
    by_cases e : i ∈ r
    · exact ih hl' e
    · rw [backE_out e]
      have ej : i = j := (List.mem_cons.mp h).resolve_right e
      subst ej
      cases e1 : ρ[i]? with
      | none => simp only [e1]; rw [List.getElem?_eq_none]; rw [hl]; exact List.getElem?_eq_none_iff.mp e1
      | some x =>
        simp only [e1]
        rw [List.getElem?_set_self]
        rw [hl]
        exact (List.getElem?_eq_some_iff.mp e1).1
theorem unwipe_le {Of' : Addr → Prop} {own : List Nat} (S1 : SR G pn Of H1 ρ1 σ) (ho : own.any (ownAt ρ1) = false) (hl : ρ'.length = ρ1.length) (so : SameOwn (wipeE ρ1 own) ρ') : SameOwn ρ1 (backE ρ1 ρ' own) ∧ ∀ b, Oo Of' (backE ρ1 ρ' own) σ b → Oo Of' ρ' (L2.wipe σ own) b := by
  have so' : SameOwn ρ1 (backE ρ1 ρ' own) := fun i => by
    by_cases e : i ∈ own
    · unfold ownAt rdS
      rw [backE_in hl e]
    · have : ownAt (backE ρ1 ρ' own) i = ownAt ρ' i := by
        unfold ownAt rdS
        rw [backE_out e]
      rw [this, so i, wipe_own ho i]
  refine ⟨so', fun b q => q.imp id fun q => ?_⟩
  rw [so'.lo] at q
  have := wipe_lo' (own := own) ho q
  rw [← so.lo] at this
  exact this
/-- the frame behind the block -/
theorem SR.unwipe {Of' : Addr → Prop} {own : List Nat} (S1 : SR G pn Of H1 ρ1 σ) (ho : own.any (ownAt ρ1) = false) (S' : SR G pn Of' H' ρ' (L2.wipe σ own)) (no : ∀ b, Of' b → Of b ∨ H1 b = none) (so : SameOwn (wipeE ρ1 own) ρ') (kp : Kp (Lo ρ1 σ) H1 H') : SR G pn Of' H' (backE ρ1 ρ' own) σ := by
  have hl : ρ'.length = ρ1.length := by rw [S'.len, L2.wipe_length, S1.len]
  obtain ⟨so', le⟩ := unwipe_le (Of' := Of') S1 ho hl so
  have lo : Lo (backE ρ1 ρ' own) σ = Lo ρ1 σ := so'.lo
  have oa : ∀ i a, OwnA (backE ρ1 ρ' own) σ i a → OwnA ρ1 σ i a := fun i a h => ⟨by rw [← so' i]; exact h.1, h.2⟩
  refine ⟨by rw [backE_len, hl, S1.len], fun i d e => ?_, fun i j a h1 h2 => S1.inj i j a (oa i a h1) (oa j a h2), fun a q => ?_, S'.oft, S'.tab⟩
  · rw [rdS_some] at e
    by_cases hi : i ∈ own
    · rw [backE_in hl hi] at e
      obtain ⟨v, h1, h2, h3⟩ := S1.rel i d (rdS_some.mpr e)
      have hd : d.own = false := by
        have := List.any_eq_false.mp ho i hi
        rw [ownAt_some (rdS_some.mpr e)] at this
        simpa using this
      have r : RelD G pn (Oo Of' (backE ρ1 ρ' own) σ) H' d v := RelD.mono (kp.mono fun b q => .inr q) (fun b q => by
        rcases q with q | q
        · exact (no b q).imp .inl id
        · rw [lo] at q
          exact .inl (.inr q)) d v (h3 hd)
      exact ⟨v, h1, r.body, fun _ => r⟩
    · rw [backE_out hi] at e
      obtain ⟨v, h1, h2, h3⟩ := S'.rel i d (rdS_some.mpr e)
      rw [L2.wipe_out hi] at h1
      exact ⟨v, h1, h2.mono Kp.refl (fun b q => .inl (le b q)) (fun _ _ _ _ z => z) h3, fun z => (h3 z).less le⟩
  · have := wipe_lo' (own := own) ho (by rw [← lo]; exact q)
    rw [← so.lo] at this
    exact S'.dis a this
theorem asgT_len : ∀ {t : Tg} {d : D} {ρ ρ' : Env}, asgT t d ρ = some ρ' → ρ'.length = ρ.length
  | .nm i, d, ρ, ρ', e => by
    unfold asgT at e
    split at e
    · cases e
      rw [List.length_set]
    · cases e
  | .tup ts, d, ρ, ρ', e => by
    have key : ∀ (ts : List Tg), (∀ t ∈ ts, ∀ {d : D} {ρ ρ' : Env}, asgT t d ρ = some ρ' → ρ'.length = ρ.length) → ∀ {ds : List D} {ρ ρ' : Env}, asgT.asgTs ts ds ρ = some ρ' → ρ'.length = ρ.length := by
      intro ts
      induction ts with
      | nil =>
        intro _ ds ρ ρ' e
        cases ds with
        | nil => cases e; rfl
        | cons _ _ => cases e
      | cons t ts ih =>
        intro h ds ρ ρ' e
        cases ds with
        | nil => cases e
        | cons d ds =>
          unfold asgT.asgTs at e
          cases e1 : asgT t d ρ with
          | none => rw [e1] at e; cases e
          | some ρ1 =>
            rw [e1] at e
            rw [ih (fun t ht => h t (List.mem_cons_of_mem _ ht)) e, h t (List.mem_cons_self ..) e1]
    cases d with
    | tup xs => exact key ts (fun t ht => asgT_len) (ds := xs) e
    | lst o xs => exact key ts (fun t ht => asgT_len) (ds := xs) e
    | _ => cases e
theorem ard_bors : ∀ {as : List Ar} {ds : List D} {i : Nat}, ard ρ as = some ds → i ∈ borsOf as → rdS ρ i ≠ none
  | [], _, _, _, h => by cases h
  | .d x :: as, ds, i, e, h => by
    unfold ard at e
    cases q : ard ρ as with
    | none => rw [q] at e; cases e
    | some r => exact ard_bors q h
  | .b j :: as, ds, i, e, h => by
    unfold ard at e
    split at e
    · rename_i d0 e0
      cases q : ard ρ as with
      | none => rw [q] at e; cases e
      | some r =>
        rcases List.mem_cons.mp h with h | h
        · subst h
          rw [e0]
          simp
        · exact ard_bors q h
    · cases e
  | .io j :: as, ds, i, e, h => by
    unfold ard at e
    cases e
end
end PI
/-! PI, part u: comprehensions as expressions. -/
namespace PI
open PySem PySem.Spec L2 PyProof.Rows
section
variable {X : Cx} {G : Txt} {W : WX} {C : Ctx} {pos : Pos}
abbrev noW : WX := fun _ _ _ _ => False
/-- what holds between two turns of a comprehension -/
structure LcI (G : Txt) (O1 : Addr → Prop) (H1 : Hp) (ρ1 : Env) (σ : L2.St) (vs : List Nat) (Dl : Addr) (H2 : Hp) (ρ2 : Env) (acc : List D) (av : List V) : Prop where
  S : SR G [] O1 H2 ρ2 (L2.wipe σ vs)
  so : SameOwn (wipeE ρ1 vs) ρ2
  kp : Kp (Lo ρ1 σ) H1 H2
  no : ∀ i ∈ vs, rdS ρ2 i = none
  at_ : H2 Dl = some (.lst av)
  rel : RelDs G [] (Oo O1 ρ2 (L2.wipe σ vs)) H2 acc av
theorem wipe_eq {σ σ3 : L2.St} {vs : List Nat} {t : Tg} (hl : σ3.length = (L2.wipe σ vs).length) (hix : ∀ j ∈ t.ix, j ∈ vs) (h : ∀ j, j ∉ t.ix → σ3[j]? = (L2.wipe σ vs)[j]?) : L2.wipe σ3 vs = L2.wipe σ vs := by
  apply List.ext_getElem?
  intro j
  by_cases hj : j ∈ vs
  · have in_ : ∀ {s : L2.St}, (L2.wipe s vs)[j]? = if j < s.length then some none else none := fun {s} => by
      clear h hix hl
      induction vs with
      | nil => cases hj
      | cons v r ih =>
        unfold L2.wipe
        by_cases e : v = j
        · subst e
          by_cases hl : v < (L2.wipe s r).length
          · rw [List.getElem?_set_self hl, if_pos (by rw [← L2.wipe_length s r]; exact hl)]
          · rw [List.getElem?_eq_none (by simpa using hl), if_neg (by rw [← L2.wipe_length s r]; exact hl)]
        · rw [List.getElem?_set_ne e]
          exact ih ((List.mem_cons.mp hj).resolve_left fun z => e z.symm)
    rw [in_, in_, hl, L2.wipe_length]
  · rw [L2.wipe_out hj, h j fun z => hj (hix j z)]
theorem r_lc {elt tg iter : Expr} {ifs : List Expr} {scope : Scope} {own : List (Str × Nat)} {t : Tg} {w : Wk} {cs : CEs} {ce : CE} {cifs : CEs} (hc : X.calm = true) (hN : X.N.Nodup) (hi : DI X G [] W tg iter (srcM C cs w)) (ok : BlkOk X.N X.env.scope scope own)
    (hg : ∀ (s : Shared) (H : Hp) (Cc : Addr) (cl : List (Str × Addr)) (fp : List Addr) (N' : Ent), N'.fix = [] → DG (X.blk s H scope (compEnvC scope cl Cc X.env) fp) G [] N' tg t)
    (ht : ∀ (s : Shared) (H : Hp) (Cc : Addr) (cl : List (Str × Addr)) (fp : List Addr), PTs (X.blk s H scope (compEnvC scope cl Cc X.env) fp) ifs (tG G [] noW BoR (evt C cifs)))
    (he : ∀ (s : Shared) (H : Hp) (Cc : Addr) (cl : List (Str × Addr)) (fp : List Addr), DE (X.blk s H scope (compEnvC scope cl Cc X.env) fp) G [] noW elt (ev C ce))
    (hix : ∀ j ∈ t.ix, j ∈ own.map (·.2)) (hs : ∀ x, foldedSetIterable iter X.env x = pure x) : DE X G [] W (.ListComp elt [⟨tg, iter, ifs, 0⟩] scope pos) (ev C (.lc ce t w cs cifs (own.map (·.2)))) := by
  have hg' : ∀ (s : Shared) (H : Hp) (Cc : Addr) (cl : List (Str × Addr)) (fp : List Addr), PG (X.blk s H scope (compEnvC scope cl Cc X.env) fp) tg (fun v σ H Q => ∃ (N : Ent) (ρ : Env) (d : D) (ρ' : Env), N.fix = [] ∧ StOk G [] N H ρ σ ∧ RtR G [] N ρ σ H d v ∧ asgT t d ρ = some ρ' ∧
      ∀ σ', StOk G [] N H ρ' σ' → (d.own = false → ∀ b, Lo ρ' σ' b → Lo ρ σ b) → (∀ j, j ∉ t.ix → σ'[j]? = σ[j]? ∧ ρ'[j]? = ρ[j]?) → Q σ' H) := fun s H Cc cl fp =>
    ⟨fun pins s' σ H' v u Q I r ⟨N, ρ, d, ρ', hN', h1, h2, h3, h4⟩ => (hg s H Cc cl fp N hN').run pins s' σ H' v u Q I r ⟨ρ, d, ρ', h1, h2, h3, h4⟩⟩
  refine PE.imp (pe_lc hc hN hi ok hg' ht he hs) fun σ H Q ⟨Of, ρ, S, hp⟩ => ?_
  generalize hvs : own.map (·.2) = vs at hp hix ⊢
  have e0 : ev C (.lc ce t w cs cifs vs) ρ = bd (srcM C cs w) (fun p ρ => if vs.any (ownAt ρ) then .stuck else
      match lcL (sameB ρ p.1) (fun r => wipeE r vs) (asgT t) (evt C cifs) (ev C ce) p.2 (wipeE ρ vs) [] with
      | .ok xs ρ' => .ok (.lst true xs) (backE ρ ρ' vs)
      | _ => .stuck) ρ := by
    rw [ev]
    unfold srcM bd
    cases evs C cs ρ with
    | stuck => rfl
    | exc _ _ => rfl
    | ok as ρ1 =>
      simp only
      cases (ard ρ1 as).bind (walkD w) <;> rfl
  rw [e0] at hp
  refine ⟨Of, ρ, S, PostG.mono (PostG.bind (R1 := SrcR G []) back_val hp) fun J H1 ⟨p, ρ1, ep, k, so, S1, src, q⟩ Dl nD => ?_⟩
  cases ho : vs.any (ownAt ρ1) with
  | true => rw [ho] at q; exact (show False from q).elim
  | false =>
    rw [ho, if_neg Bool.false_ne_true] at q
    cases el : lcL (sameB ρ1 p.1) (fun r => wipeE r vs) (asgT t) (evt C cifs) (ev C ce) p.2 (wipeE ρ1 vs) [] with
    | stuck => rw [el] at q; exact (show False from q).elim
    | exc _ _ => rw [el] at q; exact (show False from q).elim
    | ok xs ρ' =>
      rw [el] at q
      simp only at q
      have hbo : ∀ i ∈ borsOf p.1, rdS ρ1 i ≠ none := by
        unfold srcM bd at ep
        cases e : evs C cs ρ with
        | stuck => rw [e] at ep; cases ep
        | exc _ _ => rw [e] at ep; cases ep
        | ok as ρ2 =>
          rw [e] at ep
          simp only at ep
          cases e2 : ard ρ2 as with
          | none => rw [e2] at ep; cases ep
          | some ds0 =>
            rw [e2] at ep
            cases e3 : walkD w ds0 with
            | none =>
              rw [show (some ds0).bind (walkD w) = walkD w ds0 from rfl, e3] at ep
              cases ep
            | some ds =>
              rw [show (some ds0).bind (walkD w) = walkD w ds0 from rfl, e3] at ep
              cases ep
              exact fun i hi => ard_bors e2 hi
      let O1 : Addr → Prop := fun b => Of b ∨ b = Dl
      have no1 : ∀ b, O1 b → Of b ∨ H1 b = none := fun b z => z.imp id fun z => by rw [z]; exact nD
      have SD : SR G [] O1 (upd H1 Dl (.lst [])) ρ1 σ := S1.fresh (Ext.new nD) nD upd_same (fun _ z => nomatch z)
      refine ⟨fun i m H2 => ∃ ρ2 acc av, i ≤ p.2.length ∧ m = p.2.length - i ∧ LcI G O1 H1 ρ1 σ vs Dl H2 ρ2 acc av ∧ lcL (sameB ρ1 p.1) (fun r => wipeE r vs) (asgT t) (evt C cifs) (ev C ce) (p.2.drop i) ρ2 acc = .ok xs ρ',
        ⟨_, wipeE ρ1 vs, [], [], Nat.zero_le _, rfl, ⟨SD.wipe, SameOwn.refl _, Kp.same (Ext.new nD), fun i hi => wipeE_in hi, upd_same, rfl⟩, el⟩, ?_⟩
      rintro i m H2 ⟨ρ2, acc, av, hle, rfl, L, eq⟩
      have hs2 : sameB ρ1 p.1 ρ2 = true := by
        cases e : sameB ρ1 p.1 ρ2 with
        | true => rfl
        | false =>
          cases ed : p.2.drop i with
          | nil =>
            rw [ed] at eq
            unfold lcL at eq
            rw [e] at eq
            cases eq
          | cons d r =>
            rw [ed] at eq
            unfold lcL at eq
            rw [e] at eq
            cases eq
      have loe : ∀ b, Lo ρ2 (L2.wipe σ vs) b → Lo ρ1 σ b := fun b z => by
        rw [L.so.lo] at z
        exact wipe_lo z
      have jf := src O1 ρ2 (L2.wipe σ vs) H2 no1 L.S L.kp (fun b z => .inl (loe b z)) (fun j hj => by
        by_cases hv : j ∈ vs
        · exact absurd ((sameB_get hs2 hj).symm.trans (L.no j hv)) (hbo j hj)
        · exact L2.wipe_out hv) hs2
      by_cases hlt : i < p.2.length
      · have ed : p.2.drop i = p.2[i] :: p.2.drop (i + 1) := List.drop_eq_getElem_cons hlt
        rw [ed] at eq
        unfold lcL at eq
        rw [if_pos hs2] at eq
        obtain ⟨g1, g2⟩ := jf.1 i p.2[i] (List.getElem?_eq_getElem hlt)
        refine .inr ⟨g1, fun H' => ∃ ρ2 acc av, LcI G O1 H1 ρ1 σ vs Dl H' ρ2 acc av ∧ lcL (sameB ρ1 p.1) (fun r => wipeE r vs) (asgT t) (evt C cifs) (ev C ce) (p.2.drop (i + 1)) ρ2 acc = .ok xs ρ', fun H' ⟨ρ3, a3, v3, L3, q3⟩ => ⟨p.2.length - (i + 1), by omega, ρ3, a3, v3, hlt, rfl, L3, q3⟩, fun x H3 y => ?_⟩
        obtain ⟨x3, r3⟩ := g2 x H3 y
        have S3 := L.S.grow x3
        cases ea : asgT t p.2[i] ρ2 with
        | none => rw [ea] at eq; cases eq
        | some ρ3 =>
          rw [ea] at eq
          simp only at eq
          refine ⟨_, ρ2, p.2[i], ρ3, rfl, StOk.of_sr S3 [], .of r3, ea, fun σ3 s3 shr agr => ?_⟩
          have hl3 : σ3.length = (L2.wipe σ vs).length := by rw [← s3.S.len, asgT_len ea, L.S.len]
          have we : L2.wipe σ3 vs = L2.wipe σ vs := wipe_eq hl3 hix fun j hj => (agr j hj).1
          refine ⟨we, O1, ρ3, s3.S, ?_⟩
          have lo3 : ∀ b, Lo ρ3 σ3 b → Lo ρ2 (L2.wipe σ vs) b := shr r3.notown
          have soW : ∀ {ρ4 : Env}, SameOwn ρ3 ρ4 → SameOwn (wipeE ρ1 vs) (wipeE ρ4 vs) := fun {ρ4} z j => by
            by_cases hv : j ∈ vs
            · unfold ownAt
              rw [wipeE_in hv, wipeE_in hv]
            · have e1 : ownAt (wipeE ρ4 vs) j = ownAt ρ4 j := by
                unfold ownAt rdS
                rw [wipeE_out hv]
              have e2 : ownAt ρ3 j = ownAt ρ2 j := by
                unfold ownAt rdS
                rw [(agr j fun w => hv (hix j w)).2]
              rw [e1, z j, e2, L.so j]
          have nDl : ∀ {ρ4 : Env} {H4 : Hp}, SR G [] O1 H4 ρ4 σ3 → ¬ Lo ρ4 σ3 Dl := fun S4 z => S4.dis Dl z (.inr rfl)
          -- a state within the turn becomes one between turns
          have fin : ∀ {ρ4 : Env} {H4 : Hp} {acc' : List D} {av' : List V}, SR G [] O1 H4 ρ4 σ3 → SameOwn ρ3 ρ4 → Kp (Lo ρ1 σ) H1 H4 → H4 Dl = some (.lst av') → RelDs G [] (Oo O1 ρ4 σ3) H4 acc' av' → LcI G O1 H1 ρ1 σ vs Dl H4 (wipeE ρ4 vs) acc' av' := fun {ρ4 H4 acc' av'} S4 z kp4 d4 r4 => by
            have Sw : SR G [] O1 H4 (wipeE ρ4 vs) (L2.wipe σ3 vs) := S4.wipe
            have rw' : RelDs G [] (Oo O1 (wipeE ρ4 vs) (L2.wipe σ3 vs)) H4 acc' av' := r4.less fun b q => q.imp id wipe_lo
            rw [we] at Sw rw'
            exact ⟨Sw, soW z, kp4, fun j hj => wipeE_in hj, d4, rw'⟩
          have kp3 : ∀ {ρ4 : Env} {H4 : Hp}, Kp (Lo ρ3 σ3) H3 H4 → Kp (Lo ρ1 σ) H1 H4 := fun {ρ4 H4} z => (L.kp.trans (Kp.same x3)).trans (z.mono fun b q => loe b (lo3 b q))
          have rel3 : RelDs G [] (Oo O1 ρ3 σ3) H3 acc av := RelDs.mono (Kp.same x3) (fun b q => .inl (q.imp id (lo3 b))) _ _ L.rel
          cases et : evt C cifs ρ3 with
          | stuck => rw [et] at eq; cases eq
          | exc _ _ => rw [et] at eq; cases eq
          | ok b ρ4 =>
            rw [et] at eq
            intro b' H4 kp4 so4 S4 rb
            have eb : b' = b := rb
            subst eb
            have d4 : H4 Dl = some (.lst av) := kp4.keep Dl _ (x3 _ _ L.at_) (nDl s3.S) (fun _ z => nomatch z)
            have rel4 : RelDs G [] (Oo O1 ρ4 σ3) H4 acc av := RelDs.step rel3 kp4 so4
            cases b' with
            | false =>
              rw [if_neg Bool.false_ne_true]
              simp only at eq
              exact ⟨wipeE ρ4 vs, acc, av, fin S4 so4 (kp3 (ρ4 := ρ4) kp4) d4 rel4, eq⟩
            | true =>
              rw [if_pos rfl]
              simp only at eq
              refine ⟨O1, ρ4, S4, ?_⟩
              cases ee : ev C ce ρ4 with
              | stuck => rw [ee] at eq; cases eq
              | exc _ _ => rw [ee] at eq; cases eq
              | ok v ρ5 =>
                rw [ee] at eq
                simp only at eq
                intro y H5 kp5 so5 S5 rv
                split at eq
                · rename_i hz
                  have d5 : H5 Dl = some (.lst av) := kp5.keep Dl _ d4 (nDl S4) (fun _ z => nomatch z)
                  have kp5' : Kp (Lo ρ3 σ3) H4 H5 := by
                    have : Lo ρ4 σ3 = Lo ρ3 σ3 := so4.lo
                    rw [← this]
                    exact kp5
                  have rel5 : RelDs G [] (Oo O1 ρ5 σ3) H5 acc av := RelDs.step rel4 kp5 so5
                  have ry : RelD G [] (Oo O1 ρ5 σ3) H5 v.fr y := ValR.fr S4 rv
                  refine ⟨av, d5, by rw [rel5.length, sizeLine_eq]; exact hz, wipeE ρ5 vs, acc ++ [v.fr], av ++ [y], ?_, eq⟩
                  have S6 : SR G [] O1 (upd H5 Dl (.lst (av ++ [y]))) ρ5 σ3 := S5.poke (.inr rfl) d5 trivial trivial
                  refine fin S6 (so4.trans so5) ?_ upd_same (RelDs.append (rel5.updO (.inl (.inr rfl)) d5 trivial) (.cons (ry.updO (.inl (.inr rfl)) d5 trivial) rfl))
                  have kk := kp3 (ρ4 := ρ5) (kp4.trans kp5')
                  refine ⟨fun b o e n tt => ?_, fun b ps e => ?_⟩
                  · have nb : b ≠ Dl := fun z => by rw [z, nD] at e; cases e
                    rw [upd_ne nb]
                    exact kk.keep b o e n tt
                  · have nb : b ≠ Dl := fun z => by rw [z, nD] at e; cases e
                    obtain ⟨ps', e'⟩ := kk.tb b ps e
                    exact ⟨ps', by rw [upd_ne nb]; exact e'⟩
                · cases eq
      · have e : i = p.2.length := by omega
        subst e
        refine .inl ⟨jf.2, ?_⟩
        rw [List.drop_length] at eq
        unfold lcL at eq
        rw [if_pos hs2] at eq
        have e1 : acc = xs ∧ ρ2 = ρ' := by
          cases eq
          exact ⟨rfl, rfl⟩
        obtain ⟨e1, e2⟩ := e1
        subst e1 e2
        have hl : ρ2.length = ρ1.length := by rw [L.S.len, L2.wipe_length, S1.len]
        obtain ⟨so', le⟩ := unwipe_le (Of' := O1) S1 ho hl L.so
        have SB := SR.unwipe (Of' := O1) S1 ho L.S no1 L.so L.kp
        refine q (.ref Dl) H2 L.kp so' (SB.less fun a z => .inl z) ⟨(fun z => by cases z), fun _ => ⟨Dl, rfl, nD, SB, Dl, av, rfl, L.at_, L.rel.less le⟩⟩
end
end PI
/-! PI, part v: objects made. -/
namespace PI
open PySem PySem.Spec L2 PyProof.Rows
section
variable {G : Txt} {pn : List (Addr × Obj)} {W : WX} {H H' : Hp} {ρ : Env} {σ : L2.St} {O : Addr → Prop}
theorem rdS_succ {o : Option D} {i : Nat} : rdS (o :: ρ) (i + 1) = rdS ρ i := by
  unfold rdS
  rfl
theorem own_succ {o : Option D} {v : Option V} {i : Nat} {a : Addr} : OwnA (o :: ρ) (v :: σ) (i + 1) a ↔ OwnA ρ σ i a := by
  unfold OwnA ownAt
  rw [rdS_succ]
  rfl
/-- a frame behind one more slot of ours -/
theorem SR.head {o : D} {x : Addr} (S : SR G pn O H ρ σ) (ho : o.own = true) (nx : ¬ O x) (nl : ¬ Lo ρ σ x) (hb : BodyR G pn (fun b => Oo O ρ σ b ∨ b = x) H o (.ref x)) (hr : ∀ i d v, rdS ρ i = some d → σ[i]? = some (some v) → BodyR G pn (fun b => Oo O ρ σ b ∨ b = x) H d v ∧ (d.own = false → RelD G pn (fun b => Oo O ρ σ b ∨ b = x) H d v)) :
    SR G pn O H (some o :: ρ) (some (.ref x) :: σ) := by
  have le : ∀ b, Oo O (some o :: ρ) (some (.ref x) :: σ) b → Oo O ρ σ b ∨ b = x := fun b q => by
    rcases q with q | ⟨i, q⟩
    · exact .inl (.inl q)
    · cases i with
      | zero =>
        have : some (some (V.ref x)) = some (some (.ref b)) := q.2
        cases this
        exact .inr rfl
      | succ i => exact .inl (.inr ⟨i, own_succ.mp q⟩)
  have low : ∀ {d : D} {v : V}, BodyR G pn (fun b => Oo O ρ σ b ∨ b = x) H d v → (d.own = false → RelD G pn (fun b => Oo O ρ σ b ∨ b = x) H d v) → BodyR G pn (Oo O (some o :: ρ) (some (.ref x) :: σ)) H d v ∧ (d.own = false → RelD G pn (Oo O (some o :: ρ) (some (.ref x) :: σ)) H d v) := fun b r =>
    ⟨b.mono Kp.refl (fun b q => .inl (le b q)) (fun _ _ _ _ z => z) r, fun z => (r z).less le⟩
  refine ⟨by simp [S.len], fun i d e => ?_, fun i j a h1 h2 => ?_, fun a q z => ?_, S.oft, S.tab⟩
  · cases i with
    | zero =>
      have e' : some o = some d := e
      cases e'
      exact ⟨.ref x, rfl, low hb fun z => by rw [ho] at z; cases z⟩
    | succ i =>
      rw [rdS_succ] at e
      obtain ⟨v, h1, h2, h3⟩ := S.rel i d e
      obtain ⟨k1, k2⟩ := hr i d v e h1
      exact ⟨v, h1, low k1 k2⟩
  · cases i with
    | zero =>
      have e1 : some (some (V.ref x)) = some (some (.ref a)) := h1.2
      cases e1
      cases j with
      | zero => rfl
      | succ j => exact absurd ⟨j, own_succ.mp h2⟩ nl
    | succ i =>
      cases j with
      | zero =>
        have e1 : some (some (V.ref x)) = some (some (.ref a)) := h2.2
        cases e1
        exact absurd ⟨i, own_succ.mp h1⟩ nl
      | succ j => rw [S.inj i j a (own_succ.mp h1) (own_succ.mp h2)]
  · obtain ⟨i, q⟩ := q
    cases i with
    | zero =>
      have e1 : some (some (V.ref x)) = some (some (.ref a)) := q.2
      cases e1
      exact nx z
    | succ i => exact S.dis a ⟨i, own_succ.mp q⟩ z
/-- .. and without it: what it held is another's -/
theorem SR.tail {o : D} {x : Addr} (S : SR G pn O H (some o :: ρ) (some (.ref x) :: σ)) (ho : o.own = true) : SR G pn (fun b => O b ∨ b = x) H ρ σ ∧ BodyR G pn (Oo (fun b => O b ∨ b = x) ρ σ) H o (.ref x) := by
  have own0 : OwnA (some o :: ρ) (some (.ref x) :: σ) 0 x := ⟨ho, rfl⟩
  have le : ∀ b, Oo (fun b => O b ∨ b = x) ρ σ b → Oo O (some o :: ρ) (some (.ref x) :: σ) b := fun b q => by
    rcases q with (q | q) | ⟨i, q⟩
    · exact .inl q
    · exact .inr ⟨0, by rw [q]; exact own0⟩
    · exact .inr ⟨i + 1, own_succ.mpr q⟩
  obtain ⟨v, h1, h2, h3⟩ := S.rel 0 o rfl
  have e1 : some (some (V.ref x)) = some (some v) := h1
  cases e1
  refine ⟨⟨by simpa using S.len, fun i d e => ?_, fun i j a h1 h2 => ?_, fun a q z => ?_, fun a q => ?_, S.tab⟩, h2.mono Kp.refl (fun b q => .inl (le b q)) (fun _ _ _ _ z => z) h3⟩
  · obtain ⟨v, k1, k2, k3⟩ := S.rel (i + 1) d (by rw [rdS_succ]; exact e)
    exact ⟨v, k1, k2.mono Kp.refl (fun b q => .inl (le b q)) (fun _ _ _ _ z => z) k3, fun z => (k3 z).less le⟩
  · have := S.inj (i + 1) (j + 1) a (own_succ.mpr h1) (own_succ.mpr h2)
    omega
  · obtain ⟨i, q⟩ := q
    rcases z with z | z
    · exact S.dis a ⟨i + 1, own_succ.mpr q⟩ z
    · subst z
      have := S.inj 0 (i + 1) a own0 (own_succ.mpr q)
      cases this
  · rcases q with q | q
    · exact S.oft a q
    · subst q
      exact S.lot ⟨0, own0⟩
theorem putA_cons {a : D} {ds : List D} {o : Option D} {outs : List (Option D)} : putA (a :: ds) (o :: outs) = some (o.getD a) :: putA ds outs := rfl
/-- what making an object comes to -/
def makeF (K : Nat) (init : List D → FOut) (ds : List D) : FOut := match init (.ins true K [] :: ds) with
  | .ok .non (some o :: r) => .ok o r
  | .exc e (some _ :: r) => .exc e r
  | _ => .stuck
theorem guards_make {A : Around} {Ca : Addr} {us : List Value} {kw : List (Str × Value)} (h : A.guards = some []) : (A.under (.builtin "type.__call__" ⟨.ref Ca :: us, kw⟩)).guards = some [] := by
  show pushGuards (Code.guards (.builtin "type.__call__" ⟨.ref Ca :: us, kw⟩)) A.guards = some []
  rw [h]
  rfl
variable {ds : List D} {vs : List V}
/-- the new object ahead of the arguments -/
theorem make_enter {K : Nat} {c : Cls} {x dx : Addr} (S : SR G pn O H (argE ds) (argS vs)) (hT : G.T K = some c) (nx : H x = none) (nd : H dx = none) (hne : dx ≠ x) :
    Ext H (upd (upd H dx (.own x)) x (.ins (G.ca K) dx [])) ∧ SR G pn O (upd (upd H dx (.own x)) x (.ins (G.ca K) dx [])) (argE (.ins true K [] :: ds)) (argS (.ref x :: vs)) := by
  have e1 : Ext H (upd H dx (.own x)) := Ext.new nd
  have n1 : (upd H dx (.own x)) x = none := by rw [upd_ne (Ne.symm hne)]; exact nx
  have e2 : Ext H (upd (upd H dx (.own x)) x (.ins (G.ca K) dx [])) := e1.trans (Ext.new n1)
  have S2 := S.grow e2
  refine ⟨e2, S2.head rfl (fun z => ?_) (fun z => ?_) ⟨x, dx, c, [], rfl, hT, ?_, Nat.zero_le _, rfl⟩ fun i d v e h => ?_⟩
  · obtain ⟨o, e, _⟩ := S.oft x z
    rw [nx] at e
    cases e
  · obtain ⟨o, e, _⟩ := S.lot z
    rw [nx] at e
    cases e
  · rw [upd_same]
    simp [flds]
  · obtain ⟨w, k1, k2, k3⟩ := S.rel i d e
    rw [h] at k1
    cases k1
    have n : ∀ b, Oo O (argE ds) (argS vs) b ∨ b = x → Oo O (argE ds) (argS vs) b ∨ H b = none := fun b q => q.imp id fun z => by rw [z]; exact nx
    refine ⟨k2.mono (Kp.same e2) n (fun a o _ _ z => e2 a o z) k3, fun z => RelD.mono (Kp.same e2) n d v (k3 z)⟩
theorem Kp.from {L L' : Addr → Prop} {H2 : Hp} (e : Ext H H2) (k : Kp L' H2 H') (h : ∀ b, L' b → L b ∨ H b = none) : Kp L H H' := ⟨fun b o eb n t => k.keep b o (e b o eb) (fun q => (h b q).elim n fun z => by rw [eb] at z; cases z) t, fun b ps eb => k.tb b ps (e b _ eb)⟩
theorem so_tail {o o' : D} {ρ' : Env} (h : SameOwn (some o :: ρ) (some o' :: ρ')) : SameOwn ρ ρ' ∧ o'.own = o.own := by
  refine ⟨fun i => ?_, ?_⟩
  · have := h (i + 1)
    unfold ownAt at this ⊢
    rw [rdS_succ, rdS_succ] at this
    exact this
  · exact h 0
theorem SpI.make {K : Nat} {c : Cls} {x dx : Addr} {init : List D → FOut} {Q : VK} {E : XK} (hT : G.T K = some c) (nx : H x = none) (nd : H dx = none) (hne : dx ≠ x) (h : SpI G pn (makeF K init) vs H Q E) :
    SpI G pn init (.ref x :: vs) (upd (upd H dx (.own x)) x (.ins (G.ca K) dx [])) (fun v H2 => v = .non ∧ Q (.ref x) H2) E := by
  obtain ⟨O, ds, S, hp⟩ := h
  obtain ⟨e2, S2⟩ := make_enter S hT nx nd hne
  refine ⟨O, .ins true K [] :: ds, S2, ?_⟩
  have lo : ∀ b, Lo (argE (.ins true K [] :: ds)) (argS (.ref x :: vs)) b → Lo (argE ds) (argS vs) b ∨ H b = none := fun b ⟨i, q⟩ => by
    cases i with
    | zero =>
      have e1 : some (some (V.ref x)) = some (some (.ref b)) := q.2
      cases e1
      exact .inr nx
    | succ i => exact .inl ⟨i, own_succ.mp q⟩
  unfold makeF at hp
  cases ei : init (.ins true K [] :: ds) with
  | stuck => rw [ei] at hp; exact (show False from hp).elim
  | ok v outs =>
    rw [ei] at hp
    cases v with
    | non =>
      cases outs with
      | nil => exact (show False from hp).elim
      | cons o r =>
        cases o with
        | none => exact (show False from hp).elim
        | some o =>
          simp only at hp
          by_cases hl : r.length = ds.length
          · rw [show outF ds (.ok o r) = .ok o (putA ds r) from if_pos hl] at hp
            rw [show outF (.ins true K [] :: ds) (.ok .non (some o :: r)) = .ok .non (putA (.ins true K [] :: ds) (some o :: r)) from if_pos (by simp [hl])]
            intro v H3 kp so S3 rv
            rw [putA_cons] at so S3 rv
            obtain ⟨so', ho⟩ := so_tail so
            have ho' : o.own = true := ho
            obtain ⟨S4, hb⟩ := S3.tail ho'
            refine ⟨rv.1 rfl, ?_⟩
            exact hp (.ref x) H3 (Kp.from e2 kp lo) so' (S4.less fun a q => .inl q) ⟨(fun z => by rw [ho'] at z; cases z), fun _ => ⟨x, rfl, nx, S4, hb⟩⟩
          · rw [show outF ds (.ok o r) = .stuck from if_neg hl] at hp
            exact (show False from hp).elim
    | _ => exact (show False from hp).elim
  | exc e outs =>
    rw [ei] at hp
    cases outs with
    | nil => exact (show False from hp).elim
    | cons o r =>
      cases o with
      | none => exact (show False from hp).elim
      | some o =>
        simp only at hp
        by_cases hl : r.length = ds.length
        · rw [show outF ds (.exc e r) = .exc e (putA ds r) from if_pos hl] at hp
          rw [show outF (.ins true K [] :: ds) (.exc e (some o :: r)) = .exc e (putA (.ins true K [] :: ds) (some o :: r)) from if_pos (by simp [hl])]
          intro H3 cls dd kp so S3 rv
          rw [putA_cons] at so S3 rv
          obtain ⟨so', ho⟩ := so_tail so
          have ho' : o.own = true := ho
          obtain ⟨S4, hb⟩ := S3.tail ho'
          refine hp H3 cls dd (Kp.from e2 kp lo) so' (S4.less fun a q => .inl q) ?_
          obtain ⟨K', ws, c', e1, hT', ec, rv⟩ := rv
          have le : ∀ b, Oo O (putA ds r) (argS vs) b → Oo O (some (Option.getD (some o) (.ins true K [])) :: putA ds r) (argS (.ref x :: vs)) b := fun b q => q.imp id fun ⟨i, q⟩ => ⟨i + 1, own_succ.mpr q⟩
          exact ⟨K', ws, c', e1, hT', ec, rv.imp id fun ⟨d, ws', fs, ed, h1, h2, h3, h4, h5⟩ => ⟨d, ws', fs, ed, fun q => h1 (le d q), h2, h3, h4, RelDs.less h5 le⟩⟩
        · rw [show outF ds (.exc e r) = .stuck from if_neg hl] at hp
          exact (show False from hp).elim
/-- C(..) -/
theorem CallI.make {X : Cx} {hot : Bool} {k K : Nat} {c : Cls} {fI : Addr} {fd : FuncData} {ps : List Str} {init : List D → FOut} (hgd : X.A.guards = some []) (hr : Room (k + 1) X.A) (tk : Takes X W) (hT : G.T K = some c) (M : L2.Mk X.K (G.ca K) fI) (hb : Binds X.K fd ps [])
    (Fi : FnI X.prog X.w X.K X.mg X.base G hot k fI fd ps init) : CallI X G [] W (G.ca K) (makeF K init) := by
  intro pins s σ H Q us vs I r h
  have hx := I.hok.fresh (Nat.le_succ s.heap.objs.size)
  have hd := I.hok.fresh (Nat.le_refl s.heap.objs.size)
  have hq := SpI.make (c := c) (x := s.heap.objs.size + 1) (dx := s.heap.objs.size) hT hx hd (Nat.ne_of_lt (Nat.lt_succ_self _)) h
  have I2 := Inv.made (C := G.ca K) I
  have r2 : Vals (V.ref (s.heap.objs.size + 1) :: vs) (Value.ref (s.heap.objs.size + 1) :: us) := .cons rfl r
  have hl : (Value.ref (s.heap.objs.size + 1) :: us).length = ps.length := by
    rw [← r2.length]
    exact SpI.len Fi.len hq
  have b := hb _ (Value.ref (s.heap.objs.size + 1) :: us) I2.kIn (by rw [List.append_nil]; exact hl)
  rw [List.append_nil] at b
  refine wpAny_call (make_map (f := fI) I.kIn M.makes M.init (beq_iff_eq.mp M.fn) (codeAny_mono (Fi.run _ X.stack _ _
    ⟨Value.ref (s.heap.objs.size + 1) :: us, []⟩ (Value.ref (s.heap.objs.size + 1) :: us) _ _ _ (hr.make (G.ca K) us []) (guards_make hgd)
    (I2.env0.make (G.ca K) us []) b r2 hq) fun r s' hq' => ?_))
  have z := callee_end tk I2 hq'
  cases r with
  | error e => exact z
  | ok fl =>
    cases fl with
    | ret u =>
      obtain ⟨v, H', I3, rv, ev, q3⟩ := z
      subst ev
      exact ⟨rv, V.ref (s.heap.objs.size + 1), H', I3, rfl, q3⟩
    | next => exact z
    | brk => exact z
    | cont => exact z
end
end PI
/-! PI, part w: self.f = e, methods. -/
namespace PI
open PySem PySem.Spec L2 PyProof.Rows
section
variable {X : Cx} {G : Txt} {pn : List (Addr × Obj)} {W : WX} {C : Ctx} {pos : Pos} {N : Ent} {H : Hp} {ρ : Env} {σ : L2.St} {O : Addr → Prop}
theorem putF_set {fl : List Str} {vs : List V} {j : Nat} {f : Str} {y : V} (nd : fl.Nodup) (hf : fl[j]? = some f) (hj : j < vs.length) : putF f y (fl.zip vs) = fl.zip (vs.set j y) := by
  induction fl generalizing vs j with
  | nil => simp at hf
  | cons g gs ih =>
    cases vs with
    | nil => simp at hj
    | cons v vs =>
      cases j with
      | zero =>
        have e : g = f := by simpa using hf
        subst e
        simp [putF]
      | succ j =>
        have hf' : gs[j]? = some f := by simpa using hf
        rw [List.nodup_cons] at nd
        have ne : g ≠ f := fun z => nd.1 (by rw [z]; exact List.mem_of_getElem? hf')
        have t := ih (vs := vs) (j := j) nd.2 hf' (by simpa using hj)
        simp only [List.set_cons_succ, List.zip_cons_cons, putF]
        first
        | (rw [if_neg ne, t])
        | (rw [if_neg (fun z => ne z.symm), t])
        | simp [ne, t]
theorem putF_app {fl : List Str} {vs : List V} {f : Str} {y : V} (nd : fl.Nodup) (hf : fl[vs.length]? = some f) : putF f y (fl.zip vs) = fl.zip (vs ++ [y]) := by
  induction fl generalizing vs with
  | nil => simp at hf
  | cons g gs ih =>
    cases vs with
    | nil =>
      have e : g = f := by simpa using hf
      subst e
      simp [putF]
    | cons v vs =>
      have hf' : gs[vs.length]? = some f := by simpa using hf
      rw [List.nodup_cons] at nd
      have ne : g ≠ f := fun z => nd.1 (by rw [z]; exact List.mem_of_getElem? hf')
      have t := ih (vs := vs) nd.2 hf'
      simp only [List.cons_append, List.zip_cons_cons, putF]
      first
      | (rw [if_neg ne, t])
      | (rw [if_neg (fun z => ne z.symm), t])
      | simp [ne, t]
theorem findIdx_get {fl : List Str} {f : Str} {j : Nat} (h : fl.findIdx? (· == f) = some j) : fl[j]? = some f := by
  obtain ⟨h1, h2, _⟩ := List.findIdx?_eq_some_iff_getElem.mp h
  rw [List.getElem?_eq_getElem h1]
  have : fl[j] = f := by simpa using h2
  rw [this]
theorem setA_ok {o d o' : D} {a : Addr} {v : V} {f : Str} (F : KF X.K G) (ha : O a) (hb : BodyR G pn O H o (.ref a)) (hv : RelD G pn O H d v) (e : setAttrD G.T o f d = some o') :
    ∃ (K : Nat) (dx : Addr) (fs : List (Str × V)), H a = some (.ins (G.ca K) dx fs) ∧ L2.Cls X.K (G.ca K) ∧ L2.NoAttr X.K (G.ca K) f ∧ fs.length < 1000 ∧ BodyR G pn O (upd H a (.ins (G.ca K) dx (putF f v fs))) o' (.ref a) ∧ o'.own = true := by
  unfold setAttrD at e
  split at e
  · rename_i K vs
    obtain ⟨l, dx, c, ws, el, hT, hH, hl, r⟩ := hb
    cases el
    rw [hT] at e
    simp only at e
    cases hx : c.exc with
    | true => rw [hx, if_pos rfl] at e; cases e
    | false =>
      rw [hx, if_neg Bool.false_ne_true] at e
      cases ej : c.fields.findIdx? (· == f) with
      | none => simp only [ej] at e; cases e
      | some j =>
        simp only [ej] at e
        have hf := findIdx_get ej
        have If := F.ins K c hT hx
        have hmem : f ∈ c.fields := List.mem_of_getElem? hf
        have hjl : j < c.fields.length := (List.getElem?_eq_some_iff.mp hf).1
        have few : (flds c ws).length < 1000 := by
          unfold flds
          rw [List.length_zip]
          have := If.few
          omega
        split at e
        · rename_i hj
          cases e
          refine ⟨K, dx, flds c ws, hH, If.cl, If.no f hmem, few, ⟨a, dx, c, ws.set j v, rfl, hT, ?_, by rw [List.length_set]; exact hl, (r.set j hv).updO ha hH trivial⟩, rfl⟩
          rw [upd_same]
          unfold flds
          rw [putF_set If.nd hf (by rw [r.length]; exact hj)]
        · split at e
          · rename_i hj
            cases e
            have hw : ws.length = j := by rw [r.length]; exact hj.symm
            refine ⟨K, dx, flds c ws, hH, If.cl, If.no f hmem, few, ⟨a, dx, c, ws ++ [v], rfl, hT, ?_, by rw [List.length_append, hw]; exact hjl, (RelDs.append r (.cons hv (show RelDs G pn O H [] [] from rfl))).updO ha hH trivial⟩, rfl⟩
            rw [upd_same]
            unfold flds
            rw [putF_app If.nd (by rw [hw]; exact hf)]
          · cases e
  · cases e
/-- self.f = e -/
theorem s_setA {x f : Str} {p1 p2 : Pos} {e : Expr} {c : CE} (hT : C.T = G.T) (F : KF X.K G) (hi : X.N[0]? = some x) (hv : Vis X.env.scope x) (hd : (x == ("__debug__" : Str)) = false) (hcd : (x == ("__classdict__" : Str)) = false) (he : DE X G pn W e (ev C c))
    (hs : swapsWith e (some (.Attribute (.Name x p1) f p2)) pos.line X.env = pure false) : DS X G pn W N (.Assign [.Attribute (.Name x p1) f p2] e pos) (run C (.setA f c)) := by
  refine PS.imp (ps_fld (slot_val hi hv hd hcd) he hs) fun D σ H ⟨ρ, s, h⟩ => ?_
  unfold run at h
  refine ⟨N.Of, ρ, s.S, PostG.mono (es_bind s h) fun v H1 ⟨d, ρ1, _, s1, so, _, r, q⟩ => ?_⟩
  have f1 := (s.hand r).fr s1
  obtain ⟨o', e5, q3⟩ := setSlot_post q
  cases e6 : rdS ρ1 0 with
  | none => rw [e6] at e5; cases e5
  | some o =>
    rw [e6, hT] at e5
    have e5' : setAttrD G.T o f d.fr = some o' := e5
    have ho : o.own = true := by
      unfold setAttrD at e5'
      split at e5'
      · rfl
      · cases e5'
    obtain ⟨w, e7, e8, _⟩ := s1.S.rel 0 o e6
    obtain ⟨a, rfl⟩ := e8.ref ho
    obtain ⟨K, dx, fs, h1, h2, h3, h4, h5, h6⟩ := setA_ok F (.inr ⟨0, by rw [ownAt_some e6]; exact ho, e7⟩) e8 f1 e5'
    exact ⟨.ref a, e7, a, G.ca K, dx, fs, rfl, h1, h2, h3, h4, q3 σ _ (s1.mut e6 ho e7 h6 trivial h5)⟩
/-- the methods of the text's classes -/
def MethF (K : PySem.W.Frag) (G : Txt) : Prop := ∀ i c m f, G.T i = some c → c.exc = false → c.meths.lookup m = some f → ∃ a, G.fa f = some a ∧ L2.Meth K (G.ca i) m a
theorem clsAr_ok {Of : Addr → Prop} {H0 : Hp} {x : Ar} {v : V} {K : Nat} (S : SR G pn Of H ρ σ) (r : ArR G pn Of ρ σ H0 H x v) (e : clsAr ρ x = some K) : ∃ a dx c ws, v = .ref a ∧ G.T K = some c ∧ H a = some (.ins (G.ca K) dx (flds c ws)) := by
  have body : ∀ {O : Addr → Prop} {d : D} {v : V}, BodyR G pn O H d v → clsD d = some K → ∃ a dx c ws, v = .ref a ∧ G.T K = some c ∧ H a = some (.ins (G.ca K) dx (flds c ws)) := by
    intro O d v hb e
    cases d with
    | ins o K' vs =>
      cases e
      obtain ⟨a, dx, c, ws, ev, hT, hH, _⟩ := hb
      exact ⟨a, dx, c, ws, ev, hT, hH⟩
    | _ => cases e
  have slot : ∀ {i : Nat}, (rdS ρ i).bind clsD = some K → σ[i]? = some (some v) → ∃ a dx c ws, v = .ref a ∧ G.T K = some c ∧ H a = some (.ins (G.ca K) dx (flds c ws)) := by
    intro i e h
    cases e1 : rdS ρ i with
    | none => rw [e1] at e; cases e
    | some d =>
      rw [e1] at e
      obtain ⟨w, k1, k2, _⟩ := S.rel i d e1
      rw [h] at k1
      cases k1
      exact body k2 e
  cases x with
  | d x => exact body (RelD.body r) e
  | b i => exact slot e r
  | io i => exact slot e r
theorem flds_none {c : Cls} {ws : List V} {m : Str} (h : c.fields.contains m = false) : (flds c ws).lookup m = none := by
  cases e : (flds c ws).lookup m with
  | none => rfl
  | some v =>
    have := lookup_flds e
    rw [List.contains_iff_mem.mpr this] at h
    cases h
/-- o.m(e, ..) -/
theorem r_meth {m : Str} {o : Expr} {es : List Expr} {x : CA} {cs : CEs} {apos : Pos} {pl : Sem Bool} (hT : C.T = G.T) (F : KF X.K G) (M : MethF X.K G) (hcall : ∀ f a, G.fa f = some a → CallI X G pn W a (C.F f)) (ho : DA X G pn W o (eva C x)) (ha : DAs X G pn W es (evs C cs))
    (hst : (es = [] ∧ cs = .nil) ∨ ∃ e r, es = e :: r ∧ starEach (e :: r) X.env = (false, eval e X.env) :: starEach r X.env ∧ (backTo pos (starEach r X.env)).any (·.1) = false)
    (ht : eval (.Call (.Attribute o m apos) es [] pos) X.env = (do
      let ov ← eval o X.env
      standAt apos.atName
      let (f, first) ← holding [ov] (getMethod ov m pl)
      callWith pos f first (backTo pos (starEach es X.env)) (backToKw pos (keywordEach [] X.env)))) :
    DE X G pn W (.Call (.Attribute o m apos) es [] pos) (ev C (.meth m x cs)) := by
  refine ⟨fun pins s σ H Q I ⟨Of, ρ, S, hp⟩ => ?_⟩
  rw [ev] at hp
  refine PySem.W.methodCall_KW (pl := pl) (thn (ho.run pins s σ H _ I ⟨Of, ρ, S, PostG.bind (R1 := ArR G pn) back_val hp⟩) fun u s1 ⟨v, H1, I1, rx, y, ρ1, _, k1, so1, S1, r1, q⟩ => ?_) ht
  cases ec : clsAr ρ1 y with
  | none => rw [ec] at q; exact (show False from q).elim
  | some K =>
    rw [ec] at q
    cases em : methT C.T K m with
    | none =>
      rw [show (some K).bind (fun K => methT C.T K m) = methT C.T K m from rfl, em] at q
      exact (show False from q).elim
    | some f =>
      rw [show (some K).bind (fun K => methT C.T K m) = methT C.T K m from rfl, em] at q
      obtain ⟨a, dx, c, ws, rfl, hTc, hH⟩ := clsAr_ok S1 r1 ec
      obtain rfl : u = Value.ref a := rx
      have em' : c.exc = false ∧ c.fields.contains m = false ∧ c.meths.lookup m = some f := by
        rw [hT] at em
        unfold methT at em
        rw [hTc] at em
        simp only at em
        split at em
        · cases em
        · rename_i hh
          have hh' : c.exc = false ∧ c.fields.contains m = false := by
            cases h1 : c.exc with
            | true => rw [h1] at hh; exact absurd rfl hh
            | false =>
              rw [h1] at hh
              cases h2 : c.fields.contains m with
              | true => rw [h2] at hh; exact absurd rfl hh
              | false => exact ⟨rfl, rfl⟩
          exact ⟨hh'.1, hh'.2, em⟩
      obtain ⟨fa, hfa, hM⟩ := M K c m f hTc em'.1 em'.2.2
      have If := F.ins K c hTc em'.1
      refine getmeth_ok I1 hH If.cl hM (flds_none em'.2.1) ?_
      have key : tG G pn W (ArsR G pn) (evs C cs) σ H1 fun vs H2 => SpI G pn (C.F f) (.ref a :: vs) H2 Q fun c d H' => W c d σ H' := by
        refine ⟨Of, ρ1, S1, PostG.mono (PostG.bind (R1 := ArsR G pn) back_val q) fun vs H2 ⟨xs, ρ2, _, k2, so2, S2, r2, q2⟩ => ?_⟩
        exact call_end (H0 := H2) S2 (show ArsR G pn Of ρ2 σ H2 H2 (y :: xs) (.ref a :: vs) from .cons (ArR.step r1 k2 so2) r2) q2
      rcases hst with ⟨rfl, rfl⟩ | ⟨e, r, rfl, he, hpl⟩
      · obtain ⟨Of', ρ', S', hk⟩ := key
        have k2 : SpI G pn (C.F f) [.ref a] H1 Q fun c d H' => W c d σ H' := by
          unfold evs at hk
          have r := PostG.now (Q := fun vs H2 => SpI G pn (C.F f) (.ref a :: vs) H2 Q fun c d H' => W c d σ H') (b := []) S' (show ArsR G pn Of' ρ' σ H1 H1 [] [] from .nil) hk
          exact r
        exact PySem.W.callWith_K0 (first := [.ref a]) I1.kIn hM.kp (hcall f fa hfa pins s1 σ H1 Q [.ref a] [.ref a] I1 (.cons rfl .nil) k2)
      · refine PySem.W.callWith_K (first := [.ref a]) (h₀ := X.base) I.ok.mod.kin hM.kp (thn (ha.run pos pins s1 σ H1 _ I1 key) fun us s2 ⟨vs, H2, I2, r, q2⟩ => ⟨I2.kIn, ?_⟩) he hpl
        exact hcall f fa hfa pins s2 σ H2 Q (.ref a :: us) (.ref a :: vs) I2 (.cons rfl r) q2
end
end PI
/-! PI, part x: which syntax is which core: found by a program that gives the proof along. -/
namespace PI
open PySem PySem.Spec L2 PyProof.Rows
/-- what a global name is -/
inductive Gx where
  | blt
  | gcd
  | fn (f : Nat)
  | val (k : Nat)
  | cls (K f : Nat)
  | exc (K : Nat) (bare : Bool)
deriving DecidableEq
/-- what is known of a def's names -/
structure Sc where
  N : List Str
  sc : List (Str × NameKind)
  calm : Bool
  glob : List (Str × Gx)
  hot : Nat → Bool
  fnc : Str → Bool
def GlobOk (X : Cx) (G : Txt) (C : Ctx) (x : Str) : Gx → Prop
  | .blt => X.mg x = none
  | .gcd => X.mg x = some (.builtin "math.gcd")
  | .fn f => ∃ a, G.fa f = some a ∧ X.mg x = some (.ref a)
  | .val k => ∃ d v u, C.gv k = some d ∧ X.mg x = some u ∧ RelV v u ∧ ∀ (pn : List (Addr × Obj)) (O : Addr → Prop) (H : Hp), RelD G pn O H d v
  | .cls K f => X.mg x = some (.ref (G.ca K)) ∧ G.fa f = some (G.ca K)
  | .exc K b => X.mg x = some (.ref (G.ca K)) ∧ ∃ c, G.T K = some c ∧ c.exc = true ∧ c.fields.isEmpty = b
/-- how an exception of the class is made -/
inductive ExnOk (P : Program) (w : World) (K : PySem.W.Frag) (mg : Str → Option Value) (base : Heap) (Ca : Addr) (c : Cls) : Prop where
  | bare (bmB : List Value) (B newId initId : String) (hz : c.fields = []) (F : ExcBaseFacts B newId initId bmB) (hq : PySem.W.excIn K Ca bmB newId = true) (kC : PySem.W.keepIn K (.ref Ca) = true) (hs : PySem.W.subIn K (.ref Ca) (.type "BaseException") = some true) (ht : PySem.W.typeIn K (.ref Ca) = some (.type "type"))
  | init (hnz : c.fields ≠ []) (fI : Addr) (fd : FuncData) (ps : List Str) (T : OexC K Ca) (iC : PySem.W.findIn K (.ref Ca) "__init__" = some (some (.ref fI))) (tI : PySem.W.typeIn K (.ref fI) = some (.type "function")) (hno : ∀ f ∈ c.fields, PySem.W.findIn K (.ref Ca) f = some none) (hle : c.fields.length ≤ 1000) (F1 : FnOk P w K mg base (L2.CX P w) 1 fI fd ps (spX K c.fields)) (hb : Binds K fd ps [])
structure Like (X X' : Cx) : Prop where
  p : X'.prog = X.prog
  w : X'.w = X.w
  K : X'.K = X.K
  m : X'.mg = X.mg
  b : X'.base = X.base
structure Rdy (X : Cx) (G : Txt) (C : Ctx) (S : Sc) (pn : List (Addr × Obj)) (W : WX) (k : Nat) : Prop where
  cnd : Cnd X G
  nod : X.N.Nodup
  N : X.N = S.N
  sc : X.env.scope.names = S.sc
  fn : ∀ x, S.fnc x = true → X.fn x = true
  kind : X.env.scope.kind = .function
  md : Mode X k S.calm pn
  tk : Takes X W
  T : C.T = G.T
  F : KF X.K G
  M : MethF X.K G
  two : 2 ≤ k
  exn : ∀ i c, G.T i = some c → c.exc = true → ExnOk X.prog X.w X.K X.mg X.base (G.ca i) c
  exm : ∀ i c j d, G.T i = some c → G.T j = some d → d.exc = true → PySem.W.exmOne X.K (.ref (G.ca i)) (.ref (G.ca j)) = some (isSub G.T i j)
  glob : ∀ x g, S.glob.lookup x = some g → GlobOk X G C x g
  callA : ∀ f a, G.fa f = some a → PySem.W.keepIn X.K (.ref a) = true ∧ ∀ (X' : Cx) (pn' : List (Addr × Obj)) (W' : WX) (b : Bool), Like X X' → X'.A.guards = some [] → Mode X' k b pn' → Takes X' W' → (b = true ∨ S.hot f = true) → CallI X' G pn' W' a (C.F f)
def dbg (x : Str) : Bool := (x == ("__debug__" : Str)) || (x == ("__classdict__" : Str)) || decide (x = ("__name__" : Str))
def visB (S : Sc) (i : Nat) (x : Str) : Bool := decide (S.N[i]? = some x) && !dbg x && (match S.sc.lookup x with
  | some .local => true
  | some .cell => true
  | some .free => true
  | _ => false)
def globB (S : Sc) (x : Str) (g : Gx) : Bool := decide (S.glob.lookup x = some g) && !dbg x && decide (S.sc.lookup x = some .globalImplicit)
section
variable {X : Cx} {G : Txt} {C : Ctx} {S : Sc} {pn : List (Addr × Obj)} {W : WX} {k : Nat}
theorem Rdy.calls (r : Rdy X G C S pn W k) (f : Nat) (a : Addr) (e : G.fa f = some a) (h : S.calm = true ∨ S.hot f = true) : CallI X G pn W a (C.F f) ∧ PySem.W.keepIn X.K (.ref a) = true :=
  ⟨(r.callA f a e).2 X pn W S.calm ⟨rfl, rfl, rfl, rfl, rfl⟩ r.cnd.guards r.md r.tk h, (r.callA f a e).1⟩
theorem dbg_no {x : Str} (h : (!dbg x) = true) : (x == ("__debug__" : Str)) = false ∧ (x == ("__classdict__" : Str)) = false ∧ x ≠ ("__name__" : Str) := by
  have h' : dbg x = false := by simpa using h
  unfold dbg at h'
  rw [Bool.or_eq_false_iff, Bool.or_eq_false_iff] at h'
  exact ⟨h'.1.1, h'.1.2, of_decide_eq_false h'.2⟩
theorem Rdy.vis (r : Rdy X G C S pn W k) {i : Nat} {x : Str} (h : visB S i x = true) : X.N[i]? = some x ∧ Vis X.env.scope x ∧ (x == ("__debug__" : Str)) = false ∧ (x == ("__classdict__" : Str)) = false := by
  unfold visB at h
  rw [Bool.and_eq_true, Bool.and_eq_true] at h
  obtain ⟨⟨h1, h2⟩, h3⟩ := h
  obtain ⟨d1, d2, _⟩ := dbg_no h2
  refine ⟨by rw [r.N]; exact of_decide_eq_true h1, ?_, d1, d2⟩
  unfold Vis
  rw [r.sc]
  split at h3
  · exact .inl ‹_›
  · exact .inr (.inl ‹_›)
  · exact .inr (.inr ‹_›)
  · cases h3
theorem Rdy.gl (r : Rdy X G C S pn W k) {x : Str} {g : Gx} (h : globB S x g = true) : Gl X x ∧ GlobOk X G C x g ∧ (x == ("__debug__" : Str)) = false ∧ x ≠ ("__name__" : Str) := by
  unfold globB at h
  rw [Bool.and_eq_true, Bool.and_eq_true] at h
  obtain ⟨⟨h1, h2⟩, h3⟩ := h
  obtain ⟨d1, _, d3⟩ := dbg_no h2
  refine ⟨?_, r.glob x g (of_decide_eq_true h1), d1, d3⟩
  unfold Gl Env.kindOf
  rw [r.sc]
  exact of_decide_eq_true h3
theorem Mode.pins {b : Bool} (md : Mode X k b pn) : ∀ p ∈ pn, p ∈ X.pn ∧ PinF p := by
  cases md with
  | calm c rm => intro p z; cases z
  | hot p rm f m =>
    intro q z
    have e : q = p := by simpa using z
    subst e
    exact ⟨m, f⟩
theorem Rdy.pins (r : Rdy X G C S pn W k) : ∀ p ∈ pn, p ∈ X.pn ∧ PinF p := r.md.pins
end
/-! ### what is no star -/
def star : Expr → Bool
  | .Starred .. => true
  | _ => false
theorem star_each {e : Expr} {es : List Expr} {env : PySem.Env} (h : star e = false) : starEach (e :: es) env = (false, eval e env) :: starEach es env := by
  cases e <;> first | rfl | cases h
theorem star_all {es : List Expr} {env : PySem.Env} {pos : Pos} (h : es.all (fun e => !star e) = true) : (backTo pos (starEach es env)).any (·.1) = false := by
  induction es with
  | nil => rfl
  | cons e es ih =>
    rw [List.all_cons, Bool.and_eq_true] at h
    have h1 : star e = false := by simpa using h.1
    rw [star_each h1]
    unfold backTo at ih ⊢
    rw [List.map_cons, List.any_cons, ih h.2]
    rfl
/-! ### operators by name -/
def binOp : Pr → Option Operator
  | .add => some .Add
  | .sub => some .Sub
  | .mul => some .Mult
  | .fdiv => some .FloorDiv
  | .mod => some .Mod
  | .pow => some .Pow
  | .shl => some .LShift
  | _ => none
def cmpOp : Pr → Option CmpOp
  | .eq => some .Eq
  | .ne => some .NotEq
  | .lt => some .Lt
  | .le => some .LtE
  | .gt => some .Gt
  | .ge => some .GtE
  | .is => some .Is
  | .isnot => some .IsNot
  | .isin => some .In
  | .notin => some .NotIn
  | _ => none
section
variable {X : Cx} {G : Txt} {pn : List (Addr × Obj)}
theorem binOp_ok (c : Cnd X G) {p : Pr} {op : Operator} (h : binOp p = some op) : OpR X (binaryOp op) (rP2 G pn (pr G.T p)) := by
  cases p <;> first | cases h; done | skip
  all_goals (cases h)
  · exact o_add c
  · exact o_sub
  · exact o_mul c
  · exact o_fdiv
  · exact o_mod
  · exact o_pow
  · exact o_shl
theorem cmpOp_ok (c : Cnd X G) {p : Pr} {op : CmpOp} (h : cmpOp p = some op) : OpR X (compareOp op) (rP2 G pn (pr G.T p)) ∧ isCmp p = true := by
  cases p <;> first | cases h; done | skip
  all_goals (cases h)
  · exact ⟨o_eq c, rfl⟩
  · exact ⟨o_ne c, rfl⟩
  · exact ⟨o_lt, rfl⟩
  · exact ⟨o_le, rfl⟩
  · exact ⟨o_gt, rfl⟩
  · exact ⟨o_ge, rfl⟩
  · exact ⟨o_is, rfl⟩
  · exact ⟨o_isnot, rfl⟩
  · exact ⟨o_isin c, rfl⟩
  · exact ⟨o_notin c, rfl⟩
end
end PI
/-! PI, part y: the expressions' checker, which gives the proof along. -/
namespace PI
open PySem PySem.Spec L2 PyProof.Rows
abbrev Ok (p : Prop) := Option (PLift p)
@[reducible] def chk {P : Prop} (b : Bool) (k : b = true → Ok P) : Ok P := if h : b = true then k h else none
@[reducible] def Ok.by {P Q : Prop} (a : Ok P) (k : P → Ok Q) : Ok Q := match a with
  | some p => k p.down
  | none => none
@[reducible] def yes {P : Prop} (h : P) : Ok P := some ⟨h⟩
def RcE (S : Sc) (c : CE) (e : Expr) : Prop := ∀ (X : Cx) (G : Txt) (C : Ctx) (pn : List (Addr × Obj)) (W : WX) (k : Nat), Rdy X G C S pn W k → DE X G pn W e (ev C c)
def RcT (S : Sc) (c : CE) (e : Expr) : Prop := ∀ (X : Cx) (G : Txt) (C : Ctx) (pn : List (Addr × Obj)) (W : WX) (k : Nat), Rdy X G C S pn W k → DT X G pn W e (truM (ev C c))
def RcW (S : Sc) (c : CE) (e : Expr) : Prop := ∀ (X : Cx) (G : Txt) (C : Ctx) (pn : List (Addr × Obj)) (W : WX) (k : Nat), Rdy X G C S pn W k → DTW X G pn W e (truM (ev C c))
def RcA (S : Sc) (c : CA) (e : Expr) : Prop := ∀ (X : Cx) (G : Txt) (C : Ctx) (pn : List (Addr × Obj)) (W : WX) (k : Nat), Rdy X G C S pn W k → DA X G pn W e (eva C c)
def RcAs (S : Sc) (c : CEs) (es : List Expr) : Prop := ∀ (X : Cx) (G : Txt) (C : Ctx) (pn : List (Addr × Obj)) (W : WX) (k : Nat), Rdy X G C S pn W k → DAs X G pn W es (evs C c)
/-- whose truth is that of its value -/
def plainT : Expr → Bool
  | .UnaryOp .Not .. => false
  | .BoolOp .. => false
  | .IfExp .. => false
  | .Compare .. => false
  | _ => true
theorem plain_true {e : Expr} (h : plainT e = true) (env : PySem.Env) (whole : Sem Value) : isTrue e env whole = (do let v ← whole; standAt e.pos; holding [v] (truthy v)) := by
  cases e <;> first | (cases h; done) | rfl | skip
  rename_i op x p
  cases op <;> first | (cases h; done) | rfl
theorem rt_of {S : Sc} {c : CE} {e : Expr} (h : plainT e = true) (r : RcE S c e) : RcT S c e := fun X G C pn W k y => t_plain y.cnd (r X G C pn W k y) (plain_true h X.env)
def noSet : Expr → Bool
  | .Set .. => false
  | _ => true
theorem no_marks {op : CmpOp} {e : Expr} (h : noSet e = true) : behindInMarks op e = false := by
  cases e <;> first | (cases h; done) | rfl
theorem no_marks2 {op op' : CmpOp} {b e : Expr} (h : noSet e = true) : lastMarks [op, op'] [b, e] = false := no_marks (op := op') h
def noSlc : Expr → Bool
  | .Slice .. => false
  | _ => true
theorem plain_ix {e : Expr} (h : noSlc e = true) : PlainIx e := by
  intro o i
  cases e <;> first | (cases h; done) | rfl
def noCall : Expr → Bool
  | .Call .. => false
  | _ => true
theorem att_base {e : Expr} {f : Str} {env : PySem.Env} {w : Sem Value} (h : noCall e = true) : attributeBase e f env w = w := by
  cases e <;> first | (cases h; done) | rfl
theorem no_fold {e : Expr} {env : PySem.Env} (h : noSet e = true) : ∀ x, foldedSetIterable e env x = pure x := by
  intro x
  cases e <;> first | (cases h; done) | rfl
/-- builtins that are called -/
inductive Bk where
  | blt (id : String)
  | ty (id : String)
def bltOf : Pr → Option (Str × Bk × Bool)
  | .len => some ("len", .blt "len", false)
  | .int => some ("int", .ty "int", false)
  | .abs => some ("abs", .blt "abs", false)
  | .repr => some ("repr", .blt "repr", false)
  | .tuple => some ("tuple", .ty "tuple", false)
  | .list => some ("list", .ty "list", false)
  | .sum => some ("sum", .blt "sum", true)
  | .all => some ("all", .blt "all", true)
  | .any => some ("any", .blt "any", true)
  | .max => some ("max", .blt "max", true)
  | .min => some ("min", .blt "min", true)
  | _ => none
section
variable {X : Cx} {G : Txt} {C : Ctx} {S : Sc} {pn : List (Addr × Obj)} {W : WX} {k : Nat}
theorem Rdy.calm (r : Rdy X G C S pn W k) (h : S.calm = true) : X.calm = true := by
  have := r.md
  rw [h] at this
  cases this with
  | calm c _ => exact c
theorem blt_ok (r : Rdy X G C S pn W k) {p : Pr} {x : Str} {b : Bk} {hc : Bool} (h : bltOf p = some (x, b, hc)) (hh : hc = true → S.calm = true) : match b with
    | .blt id => CallR X (.builtin id) (rPn G pn (pr G.T p)) ∧ bootBuiltins x = some (.builtin id)
    | .ty id => CallR X (.type id) (rPn G pn (pr G.T p)) ∧ bootBuiltins x = some (.type id) := by
  have K := r.cnd.K
  cases p <;> first | (cases h; done) | skip
  all_goals (cases h)
  · exact ⟨c_len K, rfl⟩
  · exact ⟨c_int, rfl⟩
  · exact ⟨c_abs, rfl⟩
  · exact ⟨c_repr r.cnd, rfl⟩
  · exact ⟨c_tuple K, rfl⟩
  · exact ⟨c_list K, rfl⟩
  · exact ⟨c_sum (r.calm (hh rfl)), rfl⟩
  · exact ⟨c_all (r.calm (hh rfl)), rfl⟩
  · exact ⟨c_any (r.calm (hh rfl)), rfl⟩
  · exact ⟨c_max (r.calm (hh rfl)), rfl⟩
  · exact ⟨c_min (r.calm (hh rfl)), rfl⟩
theorem e_blt {p : Pr} {x : Str} {b : Bk} {hc : Bool} {e : Expr} {es : List Expr} {cs : CEs} {q pos : Pos} (h : bltOf p = some (x, b, hc)) (hh : (!hc || S.calm) = true) (hg : globB S x .blt = true) (ha : RcAs S cs (e :: es)) (hs : star e = false) (hst : es.all (fun e => !star e) = true) : RcE S (.pr p cs) (.Call (.Name x q) (e :: es) [] pos) := fun X G C pn W k r => by
  obtain ⟨g1, g2, g3, g4⟩ := r.gl hg
  have hh' : hc = true → S.calm = true := fun z => by simpa [z] using hh
  have z := blt_ok r h hh'
  cases b with
  | blt id => exact r_blt r.T z.1 g1 g2 z.2 (ha X G C pn W k r) g4 g3 (star_each hs) (star_all hst)
  | ty id => exact r_bty r.T z.1 g1 g2 z.2 (ha X G C pn W k r) g4 g3 (star_each hs) (star_all hst)
theorem e_gcd {x : Str} {e : Expr} {es : List Expr} {cs : CEs} {q pos : Pos} (hg : globB S x .gcd = true) (ha : RcAs S cs (e :: es)) (hs : star e = false) (hst : es.all (fun e => !star e) = true) : RcE S (.pr .gcd cs) (.Call (.Name x q) (e :: es) [] pos) := fun X G C pn W k r => by
  obtain ⟨g1, g2, g3, g4⟩ := r.gl hg
  exact r_blf r.T c_gcd g1 g2 (ha X G C pn W k r) g3 (star_each hs) (star_all hst)
theorem e_call {f : Nat} {x : Str} {e : Expr} {es : List Expr} {cs : CEs} {q pos : Pos} (hh : (S.calm || S.hot f) = true) (hg : globB S x (.fn f) = true) (ha : RcAs S cs (e :: es)) (hs : star e = false) (hst : es.all (fun e => !star e) = true) : RcE S (.call f cs) (.Call (.Name x q) (e :: es) [] pos) := fun X G C pn W k r => by
  obtain ⟨g1, ⟨a, g2, g5⟩, g3, g4⟩ := r.gl hg
  rw [Bool.or_eq_true] at hh
  obtain ⟨c1, c2⟩ := r.calls f a g2 hh
  exact r_call c1 g1 g5 c2 (ha X G C pn W k r) g3 (star_each hs) (star_all hst)
theorem e_call0 {f : Nat} {x : Str} {q pos : Pos} (hh : (S.calm || S.hot f) = true) (hg : globB S x (.fn f) = true) : RcE S (.call f .nil) (.Call (.Name x q) [] [] pos) := fun X G C pn W k r => by
  obtain ⟨g1, ⟨a, g2, g5⟩, g3, g4⟩ := r.gl hg
  rw [Bool.or_eq_true] at hh
  obtain ⟨c1, c2⟩ := r.calls f a g2 hh
  exact r_call0 c1 g1 g5 c2 g3
theorem e_make {f K : Nat} {x : Str} {e : Expr} {es : List Expr} {cs : CEs} {q pos : Pos} (hh : (S.calm || S.hot f) = true) (hg : globB S x (.cls K f) = true) (ha : RcAs S cs (e :: es)) (hs : star e = false) (hst : es.all (fun e => !star e) = true) : RcE S (.call f cs) (.Call (.Name x q) (e :: es) [] pos) := fun X G C pn W k r => by
  obtain ⟨g1, ⟨g5, g2⟩, g3, g4⟩ := r.gl hg
  rw [Bool.or_eq_true] at hh
  obtain ⟨c1, c2⟩ := r.calls f _ g2 hh
  exact r_call c1 g1 g5 c2 (ha X G C pn W k r) g3 (star_each hs) (star_all hst)
theorem e_make0 {f K : Nat} {x : Str} {q pos : Pos} (hh : (S.calm || S.hot f) = true) (hg : globB S x (.cls K f) = true) : RcE S (.call f .nil) (.Call (.Name x q) [] [] pos) := fun X G C pn W k r => by
  obtain ⟨g1, ⟨g5, g2⟩, g3, g4⟩ := r.gl hg
  rw [Bool.or_eq_true] at hh
  obtain ⟨c1, c2⟩ := r.calls f _ g2 hh
  exact r_call0 c1 g1 g5 c2 g3
theorem e_neg {a : Expr} {x : CA} {pos : Pos} (ha : RcA S x a) : RcE S (.pr .neg (.cons x .nil)) (.UnaryOp .USub a pos) := fun X G C pn W k r => r_un r.T u_neg (ha X G C pn W k r)
theorem e_not {a : Expr} {x : CA} {pos : Pos} (ha : RcA S x a) : RcE S (.pr .not (.cons x .nil)) (.UnaryOp .Not a pos) := fun X G C pn W k r => r_un r.T (u_not r.cnd) (ha X G C pn W k r)
/-! ### isinstance -/
def RcTy (S : Sc) (t : Ty) (e : Expr) : Prop := ∀ (X : Cx) (G : Txt) (C : Ctx) (pn : List (Addr × Obj)) (W : WX) (k : Nat), Rdy X G C S pn W k → PE X e (tC (tyW G t))
def tyName : Ty → Option Str
  | .int => some "int"
  | .bool => some "bool"
  | .str => some "str"
  | .tuple => some "tuple"
  | .list => some "list"
  | .dict => some "dict"
  | .valueError => some "ValueError"
  | .cls _ => none
theorem ty_blt {t : Ty} {x : Str} {q : Pos} (h : decide (tyName t = some x) = true) (hg : globB S x .blt = true) : RcTy S t (.Name x q) := fun X G C pn W k r => by
  obtain ⟨g1, g2, g3, g4⟩ := r.gl hg
  have h := of_decide_eq_true h
  cases t <;> first | (cases h; done) | skip
  all_goals (cases h)
  all_goals exact pe_bltn g1 g2 rfl rfl g4 g3
theorem ty_cls {K f : Nat} {x : Str} {q : Pos} (hg : globB S x (.cls K f) = true) : RcTy S (.cls K) (.Name x q) := fun X G C pn W k r => by
  obtain ⟨g1, ⟨g5, g2⟩, g3, g4⟩ := r.gl hg
  exact pe_glob g1 g5 rfl g3
theorem ty_exc {K : Nat} {b : Bool} {x : Str} {q : Pos} (hg : globB S x (.exc K b) = true) : RcTy S (.cls K) (.Name x q) := fun X G C pn W k r => by
  obtain ⟨g1, ⟨g5, g6⟩, g3, g4⟩ := r.gl hg
  exact pe_glob g1 g5 rfl g3
def cTy (S : Sc) (t : Ty) (e : Expr) : Ok (RcTy S t e) := match e with
  | .Name x q => match t with
    | .cls K => match S.glob.lookup x with
      | some (.cls K' f) => if h : K' = K then (chk (globB S x (.cls K' f)) fun hg => yes (h ▸ ty_cls hg)) else none
      | some (.exc K' b) => if h : K' = K then (chk (globB S x (.exc K' b)) fun hg => yes (h ▸ ty_exc hg)) else none
      | _ => none
    | t => chk (decide (tyName t = some x)) fun h => chk (globB S x .blt) fun hg => yes (ty_blt h hg)
  | _ => none
def RcTys (S : Sc) (ts : List Ty) (es : List Expr) : Prop := ∀ (X : Cx) (G : Txt) (C : Ctx) (pn : List (Addr × Obj)) (W : WX) (k : Nat), Rdy X G C S pn W k → ∃ tt : TA, PA X es tt ∧ ∀ σ H Q, Q (ts.map (tyW G)) H → tt σ H Q
theorem tys_nil : RcTys S [] [] := fun X G C pn W k r => ⟨_, pa_nil, fun σ H Q q => q⟩
theorem tys_cons {t : Ty} {ts : List Ty} {e : Expr} {es : List Expr} (hs : (!star e) = true) (h : RcTy S t e) (hr : RcTys S ts es) : RcTys S (t :: ts) (e :: es) := fun X G C pn W k r => by
  obtain ⟨tt, h1, h2⟩ := hr X G C pn W k r
  exact ⟨_, pa_cons (h X G C pn W k r) h1 (star_each (by simpa using hs)), fun σ H Q q => h2 σ H _ q⟩
def cTys (S : Sc) : (ts : List Ty) → (es : List Expr) → Ok (RcTys S ts es)
  | [], [] => yes tys_nil
  | t :: ts, e :: es => chk (!star e) fun hs => (cTy S t e).by fun h => (cTys S ts es).by fun hr => yes (tys_cons hs h hr)
  | _, _ => none
theorem e_isi1 {ty : Ty} {e te : Expr} {c : CA} {x : Str} {q pos : Pos} (hx : x = "isinstance") (hg : globB S x .blt = true) (hs : star e = false) (hs2 : star te = false) (ht : RcTy S ty te) (he : RcA S c e) : RcE S (.pr (.isi [ty]) (.cons c .nil)) (.Call (.Name x q) [e, te] [] pos) := fun X G C pn W k r => by
  subst hx
  obtain ⟨g1, g2, g3, g4⟩ := r.gl hg
  exact r_isi1 (x := ("isinstance" : Str)) r.cnd.K r.T r.F r.pins g1 g2 (he X G C pn W k r) (ht X G C pn W k r) (star_each hs) (star_each hs2) (star_all (by simp [hs2]))
theorem e_isiT {tys : List Ty} {e : Expr} {tes : List Expr} {c : CA} {x : Str} {kk : Nat} {q tp pos : Pos} (hx : x = "isinstance") (hl : decide (tys.length ≤ 1000) = true) (hg : globB S x .blt = true) (hs : star e = false) (ht : RcTys S tys tes) (he : RcA S c e) : RcE S (.pr (.isi tys) (.cons c .nil)) (.Call (.Name x q) [e, .Tuple tes kk tp] [] pos) := fun X G C pn W k r => by
  subst hx
  obtain ⟨g1, g2, g3, g4⟩ := r.gl hg
  obtain ⟨tt, h1, h2⟩ := ht X G C pn W k r
  exact r_isiT r.cnd.K r.T r.F r.pins g1 g2 (he X G C pn W k r) h1 h2 (of_decide_eq_true hl) (star_each hs) (star_each rfl) (star_all rfl)
end
end PI
/-! PI, part z: the expressions' checker. -/
namespace PI
open PySem PySem.Spec L2 PyProof.Rows
/-- what is found of an expression: its value, its truth, its truth as a part of and / or -/
structure Fnd (S : Sc) (c : CE) (e : Expr) where
  v : Ok (RcE S c e)
  t : Ok (RcT S c e)
  w : Ok (RcW S c e)
def Fnd.of {S : Sc} {c : CE} {e : Expr} (v : Ok (RcE S c e)) : Fnd S c e := ⟨v, chk (plainT e) fun h => v.by fun r => yes (rt_of h r), none⟩
def Fnd.no {S : Sc} {c : CE} {e : Expr} : Fnd S c e := ⟨none, none, none⟩
section
variable {S : Sc}
theorem e_var {i : Nat} {x : Str} {p : Pos} (h : visB S i x = true) : RcE S (.var i) (.Name x p) := fun X G C pn W k r => by
  obtain ⟨a, b, c, d⟩ := r.vis h
  exact r_var a b c d
theorem e_non {j : Nat} {p : Pos} : RcE S .non (.Constant .none j p) := fun X G C pn W k r => r_const (d := .non) pe_non (by unfold ev; rfl) fun _ _ => rfl
theorem e_bl {b : Bool} {j : Nat} {p : Pos} : RcE S (.bl b) (.Constant (.bool b) j p) := fun X G C pn W k r => r_const (d := .bl b) pe_bl (by unfold ev; rfl) fun _ _ => rfl
theorem e_int {i : Int} {j : Nat} {p : Pos} : RcE S (.int i) (.Constant (.int i) j p) := fun X G C pn W k r => r_const (d := .int i) pe_int (by unfold ev; rfl) fun _ _ => rfl
theorem e_str {x : Str} {j : Nat} {p : Pos} : RcE S (.str x) (.Constant (.str x) j p) := fun X G C pn W k r => r_const (d := .str x) pe_str (by unfold ev; rfl) fun _ _ => rfl
theorem e_glob {i : Nat} {x : Str} {p : Pos} (h : globB S x (.val i) = true) : RcE S (.glob i) (.Name x p) := fun X G C pn W k r => by
  obtain ⟨g1, ⟨d, v, u, h1, h2, h3, h4⟩, g3, _⟩ := r.gl h
  exact r_glob (pe_glob g1 h2 h3 g3) h1 (h4 pn)
theorem cmp_is {p : Pr} {op : CmpOp} (h : decide (cmpOp p = some op) = true) : isCmp p = true := by
  have h := of_decide_eq_true h
  cases p <;> first | (cases h; done) | rfl
theorem e_bin {p : Pr} {op : Operator} {a b : Expr} {x y : CA} {pos : Pos} (h : decide (binOp p = some op) = true) (ha : RcA S x a) (hb : RcA S y b) : RcE S (.pr p (.cons x (.cons y .nil))) (.BinOp a op b pos) := fun X G C pn W k r =>
  r_bin r.T (binOp_ok r.cnd (of_decide_eq_true h)) (ha X G C pn W k r) (hb X G C pn W k r)
theorem e_cmp {p : Pr} {op : CmpOp} {a b : Expr} {x y : CA} {pos : Pos} (h : decide (cmpOp p = some op) = true) (hn : noSet b = true) (ha : RcA S x a) (hb : RcA S y b) : RcE S (.pr p (.cons x (.cons y .nil))) (.Compare a [op] [b] pos) := fun X G C pn W k r =>
  r_cmp r.T (cmpOp_ok r.cnd (of_decide_eq_true h)).1 (ha X G C pn W k r) (hb X G C pn W k r) (no_marks hn)
theorem e_cmpT {p : Pr} {op : CmpOp} {a b : Expr} {x y : CA} {pos : Pos} (h : decide (cmpOp p = some op) = true) (hn : noSet b = true) (ha : RcA S x a) (hb : RcA S y b) : RcT S (.pr p (.cons x (.cons y .nil))) (.Compare a [op] [b] pos) := fun X G C pn W k r =>
  t_cmp r.T (cmp_is h) (cmpOp_ok r.cnd (of_decide_eq_true h)).1 (ha X G C pn W k r) (hb X G C pn W k r) (no_marks hn)
theorem e_idx {a b : Expr} {x y : CA} {pos : Pos} (hn : noSlc b = true) (ha : RcA S x a) (hb : RcA S y b) : RcE S (.pr .idx (.cons x (.cons y .nil))) (.Subscript a b pos) := fun X G C pn W k r =>
  r_idx r.cnd r.T (ha X G C pn W k r) (hb X G C pn W k r) (plain_ix hn)
theorem e_rev {a : Expr} {x : CA} {j : Nat} {p1 p2 p3 pos : Pos} (ha : RcA S x a) : RcE S (.pr .rev (.cons x .nil)) (.Subscript a (.Slice none none (some (.UnaryOp .USub (.Constant (.int 1) j p1) p2)) p3) pos) := fun X G C pn W k r =>
  r_rev r.cnd r.T (ha X G C pn W k r)
theorem e_attr {f : Str} {a : Expr} {x : CA} {pos : Pos} (hn : noCall a = true) (ha : RcA S x a) : RcE S (.pr (.attr f) (.cons x .nil)) (.Attribute a f pos) := fun X G C pn W k r =>
  r_attr r.cnd.K r.T r.F r.pins (ha X G C pn W k r) (att_base hn)
theorem e_notT {a : Expr} {x : CE} {pos : Pos} (ha : RcT S x a) : RcT S (.pr .not (.cons (.ex x) .nil)) (.UnaryOp .Not a pos) := fun X G C pn W k r => t_not (ha X G C pn W k r)
theorem e_chain {p q : Pr} {op op' : CmpOp} {a b c : Expr} {x y z : CE} {pos : Pos} (h : decide (cmpOp p = some op) = true) (h' : decide (cmpOp q = some op') = true) (hn : noSet c = true) (ha : RcE S x a) (hb : RcE S y b) (hc : RcE S z c) : RcE S (.chain p q x y z) (.Compare a [op, op'] [b, c] pos) := fun X G C pn W k r =>
  r_chain r.T (cmp_is h) (cmpOp_ok r.cnd (of_decide_eq_true h)).1 (cmpOp_ok r.cnd (of_decide_eq_true h')).1 (ha X G C pn W k r) (hb X G C pn W k r) (hc X G C pn W k r) (no_marks2 hn)
theorem e_chainT {p q : Pr} {op op' : CmpOp} {a b c : Expr} {x y z : CE} {pos : Pos} (h : decide (cmpOp p = some op) = true) (h' : decide (cmpOp q = some op') = true) (hn : noSet c = true) (ha : RcE S x a) (hb : RcE S y b) (hc : RcE S z c) : RcT S (.chain p q x y z) (.Compare a [op, op'] [b, c] pos) := fun X G C pn W k r =>
  t_chain r.T (cmp_is h) (cmp_is h') (cmpOp_ok r.cnd (of_decide_eq_true h)).1 (cmpOp_ok r.cnd (of_decide_eq_true h')).1 (ha X G C pn W k r) (hb X G C pn W k r) (hc X G C pn W k r) (no_marks2 hn)
theorem e_ite {c a b : Expr} {t x y : CE} {pos : Pos} (h0 : RcT S t c) (h1 : RcE S x a) (h2 : RcE S y b) : RcE S (.ite t x y) (.IfExp c a b pos) := fun X G C pn W k r => r_ite (h0 X G C pn W k r) (h1 X G C pn W k r) (h2 X G C pn W k r)
theorem e_iteT {c a b : Expr} {t x y : CE} {pos : Pos} (h0 : RcT S t c) (h1 : RcT S x a) (h2 : RcT S y b) : RcT S (.ite t x y) (.IfExp c a b pos) := fun X G C pn W k r => t_ite (h0 X G C pn W k r) (h1 X G C pn W k r) (h2 X G C pn W k r)
theorem e_and1 {a b : Expr} {x y : CE} {pos : Pos} (h1 : RcE S x a) (h2 : RcE S y b) : RcE S (.and x y) (.BoolOp .And [a, b] pos) := fun X G C pn W k r => r_and r.cnd (h1 X G C pn W k r) (r_one (h2 X G C pn W k r))
theorem e_and {a b c : Expr} {es : List Expr} {x y : CE} {pos : Pos} (h1 : RcE S x a) (h2 : RcE S y (.BoolOp .And (b :: c :: es) pos)) : RcE S (.and x y) (.BoolOp .And (a :: b :: c :: es) pos) := fun X G C pn W k r => r_and r.cnd (h1 X G C pn W k r) (h2 X G C pn W k r)
theorem e_or1 {a b : Expr} {x y : CE} {pos : Pos} (h1 : RcE S x a) (h2 : RcE S y b) : RcE S (.or x y) (.BoolOp .Or [a, b] pos) := fun X G C pn W k r => r_or r.cnd (h1 X G C pn W k r) (r_one (h2 X G C pn W k r))
theorem e_or {a b c : Expr} {es : List Expr} {x y : CE} {pos : Pos} (h1 : RcE S x a) (h2 : RcE S y (.BoolOp .Or (b :: c :: es) pos)) : RcE S (.or x y) (.BoolOp .Or (a :: b :: c :: es) pos) := fun X G C pn W k r => r_or r.cnd (h1 X G C pn W k r) (h2 X G C pn W k r)
theorem w_and1 {a b : Expr} {x y : CE} {pos : Pos} (h1 : RcT S x a) (h2 : RcT S y b) : RcW S (.and x y) (.BoolOp .And [a, b] pos) := fun X G C pn W k r => t_and (h1 X G C pn W k r) (t_and1 (h2 X G C pn W k r))
theorem w_and {a b c : Expr} {es : List Expr} {x y : CE} {pos : Pos} (h1 : RcT S x a) (h2 : RcW S y (.BoolOp .And (b :: c :: es) pos)) : RcW S (.and x y) (.BoolOp .And (a :: b :: c :: es) pos) := fun X G C pn W k r => t_and (h1 X G C pn W k r) (h2 X G C pn W k r)
theorem w_or1 {a b : Expr} {x y : CE} {pos : Pos} (h1 : RcT S x a) (h2 : RcT S y b) : RcW S (.or x y) (.BoolOp .Or [a, b] pos) := fun X G C pn W k r => t_or (h1 X G C pn W k r) (t_or1 (h2 X G C pn W k r))
theorem w_or {a b c : Expr} {es : List Expr} {x y : CE} {pos : Pos} (h1 : RcT S x a) (h2 : RcW S y (.BoolOp .Or (b :: c :: es) pos)) : RcW S (.or x y) (.BoolOp .Or (a :: b :: c :: es) pos) := fun X G C pn W k r => t_or (h1 X G C pn W k r) (h2 X G C pn W k r)
theorem t_ofW {c : CE} {e : Expr} (h : RcW S c e) : RcT S c e := fun X G C pn W k r => PW.pt (h X G C pn W k r)
def Fnd.bo {c : CE} {e : Expr} (v : Ok (RcE S c e)) (w : Ok (RcW S c e)) : Fnd S c e := ⟨v, w.by fun h => yes (t_ofW h), w⟩
theorem e_tup {es : List Expr} {cs : CEs} {j : Nat} {pos : Pos} (h1 : decide (es.length ≤ 1000) = true) (h2 : decide (cs.len ≤ 1000) = true) (h : RcAs S cs es) : RcE S (.tup cs) (.Tuple es j pos) := fun X G C pn W k r =>
  r_tup (h X G C pn W k r) (of_decide_eq_true h1) fun e => by rw [evs_len e]; exact of_decide_eq_true h2
theorem e_lst {es : List Expr} {cs : CEs} {pos : Pos} (h2 : decide (cs.len ≤ 1000) = true) (h : RcAs S cs es) : RcE S (.lst cs) (.List es pos) := fun X G C pn W k r =>
  r_lst (h X G C pn W k r) fun e => by rw [evs_len e]; exact of_decide_eq_true h2
theorem e_ex {c : CE} {e : Expr} (h : RcE S c e) : RcA S (.ex c) e := fun X G C pn W k r => da_ex (h X G C pn W k r)
theorem e_bor {i : Nat} {x : Str} {p : Pos} (h : visB S i x = true) : RcA S (.bor i) (.Name x p) := fun X G C pn W k r => by
  obtain ⟨a, b, c, d⟩ := r.vis h
  exact da_bor a b c d
theorem e_io {i : Nat} {x : Str} {p : Pos} (h : visB S i x = true) : RcA S (.io i) (.Name x p) := fun X G C pn W k r => by
  obtain ⟨a, b, c, d⟩ := r.vis h
  exact da_io a b c d
theorem e_nil : RcAs S .nil [] := fun X G C pn W k r => das_nil
theorem e_cons {e : Expr} {es : List Expr} {a : CA} {cs : CEs} (hs : (!star e) = true) (h1 : RcA S a e) (h2 : RcAs S cs es) : RcAs S (.cons a cs) (e :: es) := fun X G C pn W k r => das_cons (h1 X G C pn W k r) (h2 X G C pn W k r) (star_each (by simpa using hs))
theorem meth_form {o : Expr} {m : Str} {es : List Expr} {apos pos : Pos} {env : PySem.Env} (hn : noCall o = true) (hst : es.all (fun e => !star e) = true) (hl : decide (es.length < 30) = true) (hp : (apos.endLine == pos.line) = true) :
    eval (.Call (.Attribute o m apos) es [] pos) env = (do
      let ov ← eval o env
      standAt apos.atName
      let (f, first) ← holding [ov] (getMethod ov m (do return (← importBound o env).getD true))
      callWith pos f first (backTo pos (starEach es env)) (backToKw pos (keywordEach [] env))) := by
  have e1 : methodCallForm (es.length + 0) (backTo pos (starEach es env)) (backToKw pos (keywordEach [] env)) = true := by
    have h := star_all (env := env) (pos := pos) hst
    unfold methodCallForm
    rw [List.any_eq_false] at h
    have h1 : (backTo pos (starEach es env)).all (fun x => !x.1) = true := List.all_eq_true.mpr fun x hx => by simpa using h x hx
    rw [h1]
    have := of_decide_eq_true hl
    simp [keywordEach, backToKw]
    omega
  have e0 : eval (.Call (.Attribute o m apos) es [] pos) env = (do
      let ov ← attributeBase o m env (eval o env)
      standAt apos.atName
      methodCall o m apos pos env ov (es.length + 0) (backTo pos (starEach es env)) (backToKw pos (keywordEach [] env))) := rfl
  rw [e0, att_base hn]
  unfold methodCall methodCallPos calleeOf
  rw [e1, hp]
  rfl
theorem e_meth {m : Str} {o : Expr} {es : List Expr} {x : CA} {cs : CEs} {apos pos : Pos} (hh : S.calm = true) (hn : noCall o = true) (hst : es.all (fun e => !star e) = true) (hl : decide (es.length < 30) = true) (hp : (apos.endLine == pos.line) = true) (ho : RcA S x o) (ha : RcAs S cs es) (h0 : es = [] → cs = .nil) :
    RcE S (.meth m x cs) (.Call (.Attribute o m apos) es [] pos) := fun X G C pn W k r => by
  refine r_meth r.T r.F r.M (fun f a e => (r.calls f a e (.inl hh)).1) (ho X G C pn W k r) (ha X G C pn W k r) ?_ (meth_form hn hst hl hp)
  cases es with
  | nil => exact .inl ⟨rfl, h0 rfl⟩
  | cons e es =>
    rw [List.all_cons, Bool.and_eq_true] at hst
    exact .inr ⟨e, es, rfl, star_each (by simpa using hst.1), star_all hst.2⟩
def RcD (S : Sc) (ks : List (Option Expr)) (vs : List Expr) (zs : List Str) (cs : CEs) : Prop := ∀ (X : Cx) (G : Txt) (C : Ctx) (pn : List (Addr × Obj)) (W : WX) (k : Nat) (pos : Pos), Rdy X G C S pn W k → ∃ trs, Disp X G pn W C pos ks vs zs cs trs
theorem e_dnil : RcD S [] [] [] .nil := fun X G C pn W k pos r => ⟨_, .nil⟩
theorem e_dcons {key : Str} {v : Expr} {c : CE} {ks : List (Option Expr)} {vs : List Expr} {zs : List Str} {cs : CEs} {p : Pos} {j : Nat} (h : RcE S c v) (t : RcD S ks vs zs cs) : RcD S (some (.Constant (.str key) j p) :: ks) (v :: vs) (key :: zs) (.cons (.ex c) cs) := fun X G C pn W k pos r => by
  obtain ⟨trs, h1⟩ := t X G C pn W k pos r
  exact ⟨_, .cons (da_ex (h X G C pn W k r)) h1⟩
theorem e_dict {ks : List (Option Expr)} {vs : List Expr} {zs : List Str} {cs : CEs} {pos : Pos} (h0 : (!ks.isEmpty) = true) (h15 : decide (zs.length ≤ 15) = true) (h : RcD S ks vs zs cs) : RcE S (.dict zs cs) (.Dict ks vs pos) := fun X G C pn W k r => by
  obtain ⟨trs, h1⟩ := h X G C pn W k pos r
  exact r_dict h1 (fun z => by rw [z] at h0; cases h0) (of_decide_eq_true h15)
end

mutual
def cE (S : Sc) : (c : CE) → (e : Expr) → Fnd S c e
  | .var i, e => match e with
    | .Name x p => .of (chk (visB S i x) fun h => yes (e_var h))
    | _ => .no
  | .non, e => match e with
    | .Constant .none j p => .of (yes e_non)
    | _ => .no
  | .bl b, e => match e with
    | .Constant (.bool b') j p => .of (if h : b' = b then yes (h ▸ e_bl) else none)
    | _ => .no
  | .int i, e => match e with
    | .Constant (.int i') j p => .of (if h : i' = i then yes (h ▸ e_int) else none)
    | _ => .no
  | .str x, e => match e with
    | .Constant (.str x') j p => .of (if h : x' = x then yes (h ▸ e_str) else none)
    | _ => .no
  | .glob i, e => match e with
    | .Name x p => .of (chk (globB S x (.val i)) fun h => yes (e_glob h))
    | _ => .no
  | .tup cs, e => match e with
    | .Tuple es j p => .of (chk (decide (es.length ≤ 1000)) fun h1 => chk (decide (cs.len ≤ 1000)) fun h2 => (cAs S cs es).by fun h => yes (e_tup h1 h2 h))
    | _ => .no
  | .lst cs, e => match e with
    | .List es p => .of (chk (decide (cs.len ≤ 1000)) fun h2 => (cAs S cs es).by fun h => yes (e_lst h2 h))
    | _ => .no
  | .chain p q x y z, e => match e with
    | .Compare a [op, op'] [b, c] pos => ⟨chk (decide (cmpOp p = some op)) fun h => chk (decide (cmpOp q = some op')) fun h' => chk (noSet c) fun hn => (cE S x a).v.by fun ha => (cE S y b).v.by fun hb => (cE S z c).v.by fun hc => yes (e_chain h h' hn ha hb hc),
        chk (decide (cmpOp p = some op)) fun h => chk (decide (cmpOp q = some op')) fun h' => chk (noSet c) fun hn => (cE S x a).v.by fun ha => (cE S y b).v.by fun hb => (cE S z c).v.by fun hc => yes (e_chainT h h' hn ha hb hc), none⟩
    | _ => .no
  | .ite t x y, e => match e with
    | .IfExp c a b pos => ⟨(cE S t c).t.by fun h0 => (cE S x a).v.by fun h1 => (cE S y b).v.by fun h2 => yes (e_ite h0 h1 h2), (cE S t c).t.by fun h0 => (cE S x a).t.by fun h1 => (cE S y b).t.by fun h2 => yes (e_iteT h0 h1 h2), none⟩
    | _ => .no
  | .and x y, e => match e with
    | .BoolOp .And [a, b] pos => .bo ((cE S x a).v.by fun h1 => (cE S y b).v.by fun h2 => yes (e_and1 h1 h2)) ((cE S x a).t.by fun h1 => (cE S y b).t.by fun h2 => yes (w_and1 h1 h2))
    | .BoolOp .And (a :: b :: c :: es) pos => .bo ((cE S x a).v.by fun h1 => (cE S y (.BoolOp .And (b :: c :: es) pos)).v.by fun h2 => yes (e_and h1 h2)) ((cE S x a).t.by fun h1 => (cE S y (.BoolOp .And (b :: c :: es) pos)).w.by fun h2 => yes (w_and h1 h2))
    | _ => .no
  | .or x y, e => match e with
    | .BoolOp .Or [a, b] pos => .bo ((cE S x a).v.by fun h1 => (cE S y b).v.by fun h2 => yes (e_or1 h1 h2)) ((cE S x a).t.by fun h1 => (cE S y b).t.by fun h2 => yes (w_or1 h1 h2))
    | .BoolOp .Or (a :: b :: c :: es) pos => .bo ((cE S x a).v.by fun h1 => (cE S y (.BoolOp .Or (b :: c :: es) pos)).v.by fun h2 => yes (e_or h1 h2)) ((cE S x a).t.by fun h1 => (cE S y (.BoolOp .Or (b :: c :: es) pos)).w.by fun h2 => yes (w_or h1 h2))
    | _ => .no
  | .call f cs, e => match e with
    | .Call (.Name x q) (e :: es) [] pos => match S.glob.lookup x with
      | some (.cls K f') => .of (chk (S.calm || S.hot f) fun hh => chk (globB S x (.cls K f)) fun hg => chk (!star e) fun hs => chk (es.all fun e => !star e) fun hst => (cAs S cs (e :: es)).by fun ha => yes (e_make hh hg ha (by simpa using hs) hst))
      | _ => .of (chk (S.calm || S.hot f) fun hh => chk (globB S x (.fn f)) fun hg => chk (!star e) fun hs => chk (es.all fun e => !star e) fun hst => (cAs S cs (e :: es)).by fun ha => yes (e_call hh hg ha (by simpa using hs) hst))
    | .Call (.Name x q) [] [] pos => match cs with
      | .nil => match S.glob.lookup x with
        | some (.cls K f') => .of (chk (S.calm || S.hot f) fun hh => chk (globB S x (.cls K f)) fun hg => yes (e_make0 hh hg))
        | _ => .of (chk (S.calm || S.hot f) fun hh => chk (globB S x (.fn f)) fun hg => yes (e_call0 hh hg))
      | _ => .no
    | _ => .no
  | .meth m x cs, e => match e with
    | .Call (.Attribute o m' apos) es [] pos => .of (if hm : m' = m then (chk S.calm fun hh => chk (noCall o) fun hn => chk (es.all fun e => !star e) fun hst => chk (decide (es.length < 30)) fun hl => chk (apos.endLine == pos.line) fun hp => (cA S x o).by fun ho => (cAs S cs es).by fun ha =>
        if h0 : es = [] ∧ cs.len ≠ 0 then none else yes (hm ▸ e_meth hh hn hst hl hp ho ha (fun z => by
          cases cs with
          | nil => rfl
          | cons a r => exact absurd ⟨z, by unfold CEs.len; omega⟩ h0))) else none)
    | _ => .no
  | .dict zs cs, e => match e with
    | .Dict ks vs pos => .of (chk (!ks.isEmpty) fun h0 => chk (decide (zs.length ≤ 15)) fun h15 => (cDs S cs zs ks vs).by fun h => yes (e_dict h0 h15 h))
    | _ => .no
  | .pr p cs, e => match e with
    | .BinOp a op b pos => match cs with
      | .cons x (.cons y .nil) => .of (chk (decide (binOp p = some op)) fun h => (cA S x a).by fun ha => (cA S y b).by fun hb => yes (e_bin h ha hb))
      | _ => .no
    | .Compare a [op] [b] pos => match cs with
      | .cons x (.cons y .nil) => ⟨chk (decide (cmpOp p = some op)) fun h => chk (noSet b) fun hn => (cA S x a).by fun ha => (cA S y b).by fun hb => yes (e_cmp h hn ha hb), chk (decide (cmpOp p = some op)) fun h => chk (noSet b) fun hn => (cA S x a).by fun ha => (cA S y b).by fun hb => yes (e_cmpT h hn ha hb), none⟩
      | _ => .no
    | .Subscript a (.Slice none none (some (.UnaryOp .USub (.Constant (.int 1) j p1) p2)) p3) pos => match p, cs with
      | .rev, .cons x .nil => .of ((cA S x a).by fun ha => yes (e_rev ha))
      | _, _ => .no
    | .Subscript a b pos => match p, cs with
      | .idx, .cons x (.cons y .nil) => .of (chk (noSlc b) fun hn => (cA S x a).by fun ha => (cA S y b).by fun hb => yes (e_idx hn ha hb))
      | _, _ => .no
    | .Attribute a f pos => match p, cs with
      | .attr f', .cons x .nil => .of (if h : f' = f then (chk (noCall a) fun hn => (cA S x a).by fun ha => yes (h ▸ e_attr hn ha)) else none)
      | _, _ => .no
    | .UnaryOp .Not a pos => match p, cs with
      | .not, .cons (.ex x) .nil => ⟨(cE S x a).v.by fun ha => yes (e_not (e_ex ha)), (cE S x a).t.by fun ha => yes (e_notT ha), none⟩
      | _, _ => .no
    | .UnaryOp .USub a pos => match p, cs with
      | .neg, .cons x .nil => .of ((cA S x a).by fun ha => yes (e_neg ha))
      | _, _ => .no
    | .Call (.Name x q) [e, te] [] pos => match p, cs with
      | .isi tys, .cons c .nil => .of (if hx : x = "isinstance" then (chk (globB S x .blt) fun hg => chk (!star e) fun hs => match tys, te with
        | tys, .Tuple tes kk tp => chk (decide (tys.length ≤ 1000)) fun hl => (cTys S tys tes).by fun ht => (cA S c e).by fun he => yes (e_isiT hx hl hg (by simpa using hs) ht he)
        | [ty], te => chk (!star te) fun hs2 => (cTy S ty te).by fun ht => (cA S c e).by fun he => yes (e_isi1 hx hg (by simpa using hs) (by simpa using hs2) ht he)
        | _, _ => none) else none)
      | p, cs => match hp : bltOf p with
        | some (x', b, hc) => .of (if hx : x' = x then (chk (!hc || S.calm) fun hh => chk (globB S x .blt) fun hg => chk (!star e) fun hs => chk ([te].all fun e => !star e) fun hst => (cAs S cs [e, te]).by fun ha => yes (e_blt (hx ▸ hp) hh hg ha (by simpa using hs) hst)) else none)
        | none => .of (if hx : p = .gcd then (chk (globB S x .gcd) fun hg => chk (!star e) fun hs => chk ([te].all fun e => !star e) fun hst => (cAs S cs [e, te]).by fun ha => yes (hx ▸ e_gcd hg ha (by simpa using hs) hst)) else none)
    | .Call (.Name x q) (e :: es) [] pos => match hp : bltOf p with
      | some (x', b, hc) => .of (if hx : x' = x then (chk (!hc || S.calm) fun hh => chk (globB S x .blt) fun hg => chk (!star e) fun hs => chk (es.all fun e => !star e) fun hst => (cAs S cs (e :: es)).by fun ha => yes (e_blt (hx ▸ hp) hh hg ha (by simpa using hs) hst)) else none)
      | none => .of (if hx : p = .gcd then (chk (globB S x .gcd) fun hg => chk (!star e) fun hs => chk (es.all fun e => !star e) fun hst => (cAs S cs (e :: es)).by fun ha => yes (hx ▸ e_gcd hg ha (by simpa using hs) hst)) else none)
    | _ => .no
  | _, _ => .no
def cA (S : Sc) : (c : CA) → (e : Expr) → Ok (RcA S c e)
  | .ex c, e => (cE S c e).v.by fun h => yes (e_ex h)
  | .bor i, e => match e with
    | .Name x p => chk (visB S i x) fun h => yes (e_bor h)
    | _ => none
  | .io i, e => match e with
    | .Name x p => chk (visB S i x) fun h => yes (e_io h)
    | _ => none
def cAs (S : Sc) : (c : CEs) → (es : List Expr) → Ok (RcAs S c es)
  | .nil, es => match es with
    | [] => yes e_nil
    | _ => none
  | .cons a cs, es => match es with
    | e :: es => chk (!star e) fun hs => (cA S a e).by fun h1 => (cAs S cs es).by fun h2 => yes (e_cons hs h1 h2)
    | _ => none
def cDs (S : Sc) : (cs : CEs) → (zs : List Str) → (ks : List (Option Expr)) → (vs : List Expr) → Ok (RcD S ks vs zs cs)
  | .nil, zs, ks, vs => match zs, ks, vs with
    | [], [], [] => yes e_dnil
    | _, _, _ => none
  | .cons (.ex c) cs, zs, ks, vs => match zs, ks, vs with
    | z :: zs, some (.Constant (.str z') j p) :: ks, v :: vs => if hz : z' = z then ((cE S c v).v.by fun h => (cDs S cs zs ks vs).by fun t => yes (hz ▸ e_dcons h t)) else none
    | _, _, _ => none
  | _, _, _, _ => none
end
end PI
/-! PJ, part a: the statements' checker. -/
namespace PI
open PySem PySem.Spec L2 PyProof.Rows
structure RdyS (X : Cx) (G : Txt) (C : Ctx) (S : Sc) (pn : List (Addr × Obj)) (W : WX) (k : Nat) : Prop where
  r : Rdy X G C S pn W k
  po : S.calm = true → PassesOwn (model X.prog X.w) X.A X.env X.xe
  st : X.stack = X.env :: X.outer
  fr : X.env.frame = some X.env.locals
def RcS (S : Sc) (fx : List Nat) (c : CS) (s : Stmt) : Prop := ∀ (X : Cx) (G : Txt) (C : Ctx) (pn : List (Addr × Obj)) (W : WX) (k : Nat) (N : Ent), RdyS X G C S pn W k → N.fix = fx → DS X G pn W N s (run C c)
def RcSs (S : Sc) (fx : List Nat) (c : CSs) (s : List Stmt) : Prop := ∀ (X : Cx) (G : Txt) (C : Ctx) (pn : List (Addr × Obj)) (W : WX) (k : Nat) (N : Ent), RdyS X G C S pn W k → N.fix = fx → DSs X G pn W N s (runs C c)
def RcG (S : Sc) (fx : List Nat) (t : Tg) (e : Expr) : Prop := ∀ (X : Cx) (G : Txt) (C : Ctx) (pn : List (Addr × Obj)) (W : WX) (k : Nat) (N : Ent), RdyS X G C S pn W k → N.fix = fx → DG X G pn N e t
def RcGs (S : Sc) (fx : List Nat) (t : List Tg) (e : List Expr) : Prop := ∀ (X : Cx) (G : Txt) (C : Ctx) (pn : List (Addr × Obj)) (W : WX) (k : Nat) (N : Ent), RdyS X G C S pn W k → N.fix = fx → DGs X G pn N e t
def locB (S : Sc) (i : Nat) (x : Str) : Bool := decide (S.N[i]? = some x) && (match S.sc.lookup x with
  | some .local => true
  | some .cell => S.fnc x
  | _ => false)
theorem Rdy.loc {X : Cx} {G : Txt} {C : Ctx} {S : Sc} {pn : List (Addr × Obj)} {W : WX} {k : Nat} (r : Rdy X G C S pn W k) {i : Nat} {x : Str} (h : locB S i x = true) : X.N[i]? = some x ∧ L2.Loc X.env.scope x ∧ (X.fn x = true ∨ X.env.scope.names.lookup x = some .local) := by
  unfold locB at h
  rw [Bool.and_eq_true] at h
  obtain ⟨h1, h3⟩ := h
  refine ⟨by rw [r.N]; exact of_decide_eq_true h1, ?_⟩
  unfold L2.Loc
  rw [r.sc]
  split at h3
  · exact ⟨.inl ‹_›, .inr ‹_›⟩
  · exact ⟨.inr ‹_›, .inl (r.fn x h3)⟩
  · cases h3
def nix (i : Nat) (fx : List Nat) : Bool := !fx.contains i
theorem nix_no {i : Nat} {fx : List Nat} (h : nix i fx = true) : i ∉ fx := by
  unfold nix at h
  intro z
  rw [List.contains_iff_mem.mpr z] at h
  cases h
section
variable {S : Sc} {fx : List Nat}
theorem q_name {i : Nat} {x : Str} {p : Pos} (h : locB S i x = true) (hn : nix i fx = true) : RcG S fx (.nm i) (.Name x p) := fun X G C pn W k N r hN => by
  obtain ⟨a, b, c⟩ := r.r.loc h
  exact g_name r.r.nod a b c (by rw [hN]; exact nix_no hn)
theorem q_nil : RcGs S fx [] [] := fun X G C pn W k N r hN => g_nil
theorem as_each {e : Expr} {es : List Expr} {env : PySem.Env} (h : star e = false) : assignEach (e :: es) env = (false, assign e env) :: assignEach es env := by
  cases e <;> first | rfl | cases h
theorem q_cons {e : Expr} {es : List Expr} {t : Tg} {ts : List Tg} (hs : (!star e) = true) (h1 : RcG S fx t e) (h2 : RcGs S fx ts es) : RcGs S fx (t :: ts) (e :: es) := fun X G C pn W k N r hN =>
  g_cons (h1 X G C pn W k N r hN) (h2 X G C pn W k N r hN) (by rw [as_each (by simpa using hs)]; rfl)
theorem as_len {es : List Expr} {env : PySem.Env} : (assignEach es env).length = es.length := by
  induction es with
  | nil => rfl
  | cons e es ih =>
    cases e <;> (unfold assignEach; rw [List.length_cons, ih]; rfl)
theorem as_star {es : List Expr} {env : PySem.Env} (h : es.all (fun e => !star e) = true) : (assignEach es env).findIdx? (·.1) = none := by
  induction es with
  | nil => rfl
  | cons e es ih =>
    rw [List.all_cons, Bool.and_eq_true] at h
    rw [as_each (by simpa using h.1), List.findIdx?_cons, ih h.2]
    rfl
theorem q_tup {es : List Expr} {j : Nat} {ts : List Tg} {p : Pos} (hc : S.calm = true) (hl : decide (es.length = ts.length) = true) (hst : es.all (fun e => !star e) = true) (h : RcGs S fx ts es) : RcG S fx (.tup ts) (.Tuple es j p) := fun X G C pn W k N r hN =>
  g_tup r.r.cnd.K (r.r.calm hc) (h X G C pn W k N r hN) (of_decide_eq_true hl) as_len (as_star hst)
mutual
def cG (S : Sc) (fx : List Nat) : (t : Tg) → (e : Expr) → Ok (RcG S fx t e)
  | .nm i, e => match e with
    | .Name x p => chk (locB S i x) fun h => chk (nix i fx) fun hn => yes (q_name h hn)
    | _ => none
  | .tup ts, e => match e with
    | .Tuple es j p => chk S.calm fun hc => chk (decide (es.length = ts.length)) fun hl => chk (es.all fun e => !star e) fun hst => (cGs S fx ts es).by fun h => yes (q_tup hc hl hst h)
    | _ => none
def cGs (S : Sc) (fx : List Nat) : (t : List Tg) → (e : List Expr) → Ok (RcGs S fx t e)
  | [], e => match e with
    | [] => yes q_nil
    | _ => none
  | t :: ts, e => match e with
    | e :: es => chk (!star e) fun hs => (cG S fx t e).by fun h1 => (cGs S fx ts es).by fun h2 => yes (q_cons hs h1 h2)
    | _ => none
end
/-- no comprehension, whose value is stored in a way of its own -/
def noComp : Expr → Bool
  | .ListComp .. => false
  | .SetComp .. => false
  | .DictComp .. => false
  | _ => true
theorem no_swap {e : Expr} {t : Option Expr} {l : Nat} {env : PySem.Env} (h : noComp e = true) : swapsWith e t l env = pure false := by
  cases e <;> first | rfl | cases h
def noTup : Expr → Bool
  | .Tuple .. => false
  | _ => true
theorem no_stores {t e : Expr} {env : PySem.Env} (h : (noTup e || (match t with | .Name .. => true | _ => false)) = true) : swappedStores [t] e env = pure none := by
  cases e <;> first | (cases t <;> first | rfl | (cases h; done)) | skip
theorem z_asg {tg e : Expr} {t : Tg} {c : CE} {pos : Pos} (h1 : noComp e = true) (h2 : (noTup e || (match tg with | .Name .. => true | _ => false)) = true) (h3 : star tg = false) (hg : RcG S fx t tg) (he : RcE S c e) : RcS S fx (.asg t c) (.Assign [tg] e pos) := fun X G C pn W k N r hN =>
  s_asg (he X G C pn W k r.r) (hg X G C pn W k N r hN) (no_swap h1) (no_stores h2) (by rw [as_each h3]; rfl)
theorem z_mov {x y : Str} {p p' : Pos} {i j : Nat} {pos : Pos} (h : locB S i x = true) (hn : nix i fx = true) (hv : visB S j y = true) : RcS S fx (.mov i j) (.Assign [.Name x p'] (.Name y p) pos) := fun X G C pn W k N r hN => by
  obtain ⟨a, b, c⟩ := r.r.loc h
  obtain ⟨d, e, f, g⟩ := r.r.vis hv
  exact s_mov r.r.nod a b c (by rw [hN]; exact nix_no hn) d e f g
theorem z_pass {pos : Pos} : RcS S fx .pass (.Pass pos) := fun X G C pn W k N r hN => s_pass
theorem z_brk {pos : Pos} : RcS S fx .brk (.Break pos) := fun X G C pn W k N r hN => s_break
theorem z_cnt {pos : Pos} : RcS S fx .cnt (.Continue pos) := fun X G C pn W k N r hN => s_continue
theorem z_retN {pos : Pos} : RcS S fx .retN (.Return none pos) := fun X G C pn W k N r hN => s_retN
theorem z_ret {e : Expr} {c : CE} {pos : Pos} (h : RcE S c e) : RcS S fx (.ret c) (.Return (some e) pos) := fun X G C pn W k N r hN => s_ret (h X G C pn W k r.r)
theorem z_retS {x : Str} {p : Pos} {i : Nat} {pos : Pos} (hv : visB S i x = true) : RcS S fx (.retS i) (.Return (some (.Name x p)) pos) := fun X G C pn W k N r hN => by
  obtain ⟨d, e, f, g⟩ := r.r.vis hv
  exact s_retS d e f g
theorem z_drop {e : Expr} {c : CE} {pos : Pos} (h1 : noComp e = true) (h : RcE S c e) : RcS S fx (.drop c) (.Expr e pos) := fun X G C pn W k N r hN => s_drop (h X G C pn W k r.r) (no_swap h1)
theorem z_iff {c : Expr} {a b : List Stmt} {t : CE} {x y : CSs} {pos : Pos} (h0 : RcT S t c) (h1 : RcSs S fx x a) (h2 : RcSs S fx y b) : RcS S fx (.iff t x y) (.If c a b pos) := fun X G C pn W k N r hN =>
  s_if (h0 X G C pn W k r.r) (h1 X G C pn W k N r hN) (h2 X G C pn W k N r hN)
theorem z_whl {c : Expr} {a : List Stmt} {t : CE} {x : CSs} {pos : Pos} (hc : S.calm = true) (h0 : RcT S t c) (h1 : RcSs S fx x a) : RcS S fx (.whl t x) (.While c a [] pos) := fun X G C pn W k N r hN =>
  s_while (r.po hc) (h0 X G C pn W k r.r) (h1 X G C pn W k N r hN)
theorem z_nil : RcSs S fx .nil [] := fun X G C pn W k N r hN => ss_nil
theorem z_cons {s : Stmt} {rest : List Stmt} {c : CS} {cs : CSs} (h1 : RcS S fx c s) (h2 : RcSs S fx cs rest) : RcSs S fx (.cons c cs) (s :: rest) := fun X G C pn W k N r hN => ss_cons (h1 X G C pn W k N r hN) (h2 X G C pn W k N r hN)
theorem z_frz {i : Nat} {rest : List Stmt} {cs : CSs} (hn : nix i fx = true) (h2 : RcSs S fx cs rest) : RcSs S fx (.frz i cs) rest := fun X G C pn W k N r hN => ss_frz (by rw [hN]; exact nix_no hn) (h2 X G C pn W k N r hN)
theorem z_aug {x : Str} {p' : Pos} {i : Nat} {e : Expr} {c : CE} {p : Pr} {op : Operator} {pos : Pos} (hp : decide (augOp p = some op) = true) (hq : decide (p = .add ∨ p = .sub ∨ p = .mul) = true) (h : locB S i x = true) (hn : nix i fx = true) (he : RcE S c e) : RcS S fx (.aug i p c) (.AugAssign (.Name x p') op e pos) := fun X G C pn W k N r hN => by
  obtain ⟨a, b, d⟩ := r.r.loc h
  exact s_aug r.r.T (of_decide_eq_true hp) (of_decide_eq_true hq) r.r.nod a b d (by rw [hN]; exact nix_no hn) (he X G C pn W k r.r)
end
end PI
/-! PJ, part b: stores into lists, dicts, objects; walks; try. -/
namespace PI
open PySem PySem.Spec L2 PyProof.Rows
section
variable {S : Sc} {fx : List Nat}
theorem sub_assign {o ke : Expr} {p2 : Pos} {env : PySem.Env} (h : noSlc ke = true) : ∀ v, assign (.Subscript o ke p2) env v = (do
      let ov ← holding [v] (eval o env)
      let iv ← holding [v, ov] (eval ke env)
      standAt p2
      holding [v, ov, iv] (setItem ov iv v)
      release [v, ov, iv] []) := by
  intro v
  cases ke <;> first | rfl | cases h
theorem z_setI {x : Str} {p1 p2 pos : Pos} {i : Nat} {ke e : Expr} {kc c : CE} (h1 : noComp e = true) (hs : noSlc ke = true) (hv : visB S i x = true) (hk : RcE S kc ke) (he : RcE S c e) : RcS S fx (.setI i kc c) (.Assign [.Subscript (.Name x p1) ke p2] e pos) := fun X G C pn W k N r hN => by
  obtain ⟨d, f, g, l⟩ := r.r.vis hv
  exact s_setI (by have := r.r.cnd.units; omega) d f g l (hk X G C pn W k r.r) (he X G C pn W k r.r) (sub_assign hs) (show swapsWith e (some (.Subscript (.Name x p1) ke p2)) pos.line X.env = pure false from no_swap h1) (by cases e <;> rfl) rfl
theorem z_setA {x f : Str} {p1 p2 pos : Pos} {e : Expr} {c : CE} (h1 : noComp e = true) (hv : visB S 0 x = true) (he : RcE S c e) : RcS S fx (.setA f c) (.Assign [.Attribute (.Name x p1) f p2] e pos) := fun X G C pn W k N r hN => by
  obtain ⟨d, g, h, l⟩ := r.r.vis hv
  exact s_setA r.r.T r.r.F d g h l (he X G C pn W k r.r) (no_swap h1)
theorem z_app {x m : Str} {p1 ap cp pos : Pos} {i : Nat} {e : Expr} {c : CE} (hm : m = "append") (hv : visB S i x = true) (hs : star e = false) (hl : (ap.endLine == cp.line) = true) (he : RcAs S (.cons (.ex c) .nil) [e]) : RcS S fx (.app i c) (.Expr (.Call (.Attribute (.Name x p1) m ap) [e] [] cp) pos) := fun X G C pn W k N r hN => by
  subst hm
  obtain ⟨d, g, h, l⟩ := r.r.vis hv
  refine s_app d g h l (he X G C pn W k r.r) hl ?_ (star_each hs) rfl
  rw [star_each hs]
  rfl
/-! ### walks -/
def borsC : CEs → List Nat
  | .nil => []
  | .cons (.bor i) r => i :: borsC r
  | .cons _ r => borsC r
theorem evs_bors {C : Ctx} : ∀ {cs : CEs} {ρ ρ' : Env} {as : List Ar}, evs C cs ρ = .ok as ρ' → ∀ i ∈ borsOf as, i ∈ borsC cs
  | .nil, ρ, ρ', as, h => by
    unfold evs at h
    cases h
    intro i z
    cases z
  | .cons a r, ρ, ρ', as, h => by
    unfold evs bd at h
    cases e1 : eva C a ρ with
    | stuck => rw [e1] at h; cases h
    | exc _ _ => rw [e1] at h; cases h
    | ok x ρ1 =>
      rw [e1] at h
      simp only [bd] at h
      cases e2 : evs C r ρ1 with
      | stuck => rw [e2] at h; cases h
      | exc _ _ => rw [e2] at h; cases h
      | ok xs ρ2 =>
        rw [e2] at h
        cases h
        have ih := evs_bors e2
        cases a with
        | ex c =>
          unfold eva bd at e1
          cases e3 : ev C c ρ with
          | stuck => rw [e3] at e1; cases e1
          | exc _ _ => rw [e3] at e1; cases e1
          | ok y ρ3 =>
            rw [e3] at e1
            cases e1
            exact ih
        | bor j =>
          unfold eva at e1
          split at e1
          · cases e1
            intro i z
            rcases List.mem_cons.mp z with z | z
            · rw [z]; exact List.mem_cons_self
            · exact List.mem_cons_of_mem _ (ih i z)
          · cases e1
        | io j =>
          unfold eva at e1
          split at e1
          · cases e1
            exact ih
          · cases e1
def RcI (S : Sc) (w : Wk) (cs : CEs) (tg iter : Expr) : Prop := ∀ (X : Cx) (G : Txt) (C : Ctx) (pn : List (Addr × Obj)) (W : WX) (k : Nat), Rdy X G C S pn W k → DI X G pn W tg iter (srcM C cs w)
theorem w_seq {tg e : Expr} {x : CA} (h : RcA S x e) : RcI S .seq (.cons x .nil) tg e := fun X G C pn W k r => i_seq r.cnd.K (h X G C pn W k r)
theorem w_rng1 {tg a : Expr} {cs : CEs} {x : Str} {p pos : Pos} (hx : x = "range") (hl : decide (cs.len = 1) = true) (hg : globB S x .blt = true) (hs : star a = false) (h : RcAs S cs [a]) : RcI S .range cs tg (.Call (.Name x p) [a] [] pos) := fun X G C pn W k r => by
  subst hx
  obtain ⟨g1, g2, g3, g4⟩ := r.gl hg
  exact i_range1 (of_decide_eq_true hl) g1 g2 (h X G C pn W k r) (by rw [star_each hs]; rfl)
theorem w_rng2 {tg a b : Expr} {cs : CEs} {x : Str} {p pos : Pos} (hx : x = "range") (hl : decide (cs.len = 2) = true) (hg : globB S x .blt = true) (hs : star a = false) (hs2 : star b = false) (h : RcAs S cs [a, b]) : RcI S .range cs tg (.Call (.Name x p) [a, b] [] pos) := fun X G C pn W k r => by
  subst hx
  obtain ⟨g1, g2, g3, g4⟩ := r.gl hg
  exact i_range2 (of_decide_eq_true hl) g1 g2 (h X G C pn W k r) (by rw [star_each hs, star_each hs2]; rfl) (by rw [star_each hs2]; rfl)
theorem w_rng3 {tg a b c : Expr} {cs : CEs} {x : Str} {p pos : Pos} (hx : x = "range") (hl : decide (cs.len = 3) = true) (hg : globB S x .blt = true) (hs : star a = false) (hst : [b, c].all (fun e => !star e) = true) (h : RcAs S cs [a, b, c]) : RcI S .range cs tg (.Call (.Name x p) [a, b, c] [] pos) := fun X G C pn W k r => by
  subst hx
  obtain ⟨g1, g2, g3, g4⟩ := r.gl hg
  exact i_range3 (of_decide_eq_true hl) g1 g2 (h X G C pn W k r) (star_each hs) (star_all hst)
end
end PI
/-! PJ, part c: walks over two, the for loop. -/
namespace PI
open PySem PySem.Spec L2 PyProof.Rows
section
variable {S : Sc} {fx : List Nat}
theorem w_zip {a b : Expr} {cs : CEs} {x : Str} {p pos tpos : Pos} {elts : List Expr} {kk : Nat} (hx : x = "zip") (hl : decide (cs.len = 2) = true) (hg : globB S x .blt = true) (hs : star a = false) (hst : [b].all (fun e => !star e) = true) (h : RcAs S cs [a, b]) : RcI S .zip cs (.Tuple elts kk tpos) (.Call (.Name x p) [a, b] [] pos) := fun X G C pn W k r => by
  subst hx
  obtain ⟨g1, g2, g3, g4⟩ := r.gl hg
  exact i_zip r.cnd.K (of_decide_eq_true hl) g1 g2 (h X G C pn W k r) (star_each hs) (star_all hst)
def cI (S : Sc) (w : Wk) (cs : CEs) (tg iter : Expr) : Ok (RcI S w cs tg iter) := match w, iter with
  | .seq, e => match cs with
    | .cons x .nil => (cA S x e).by fun h => yes (w_seq h)
    | _ => none
  | .range, .Call (.Name x p) [a] [] pos => if hx : x = "range" then (chk (decide (cs.len = 1)) fun hl => chk (globB S x .blt) fun hg => chk (!star a) fun hs => (cAs S cs [a]).by fun h => yes (w_rng1 hx hl hg (by simpa using hs) h)) else none
  | .range, .Call (.Name x p) [a, b] [] pos => if hx : x = "range" then (chk (decide (cs.len = 2)) fun hl => chk (globB S x .blt) fun hg => chk (!star a) fun hs => chk (!star b) fun hs2 => (cAs S cs [a, b]).by fun h => yes (w_rng2 hx hl hg (by simpa using hs) (by simpa using hs2) h)) else none
  | .range, .Call (.Name x p) [a, b, c] [] pos => if hx : x = "range" then (chk (decide (cs.len = 3)) fun hl => chk (globB S x .blt) fun hg => chk (!star a) fun hs => chk ([b, c].all fun e => !star e) fun hst => (cAs S cs [a, b, c]).by fun h => yes (w_rng3 hx hl hg (by simpa using hs) hst h)) else none
  | .zip, .Call (.Name x p) [a, b] [] pos => match tg with
    | .Tuple elts kk tpos => if hx : x = "zip" then (chk (decide (cs.len = 2)) fun hl => chk (globB S x .blt) fun hg => chk (!star a) fun hs => chk ([b].all fun e => !star e) fun hst => (cAs S cs [a, b]).by fun h => yes (w_zip hx hl hg (by simpa using hs) hst h)) else none
    | _ => none
  | _, _ => none
theorem z_for {tg iter : Expr} {body : List Stmt} {t : Tg} {w : Wk} {cs : CEs} {b : CSs} {pos : Pos} (hc : S.calm = true) (hn : noSet iter = true) (hi : RcI S w cs tg iter) (hg : RcG S (borsC cs ++ fx) t tg) (hb : RcSs S (borsC cs ++ fx) b body) : RcS S fx (.for t w cs b) (.For tg iter body [] pos) := fun X G C pn W k N r hN =>
  s_for (r.po hc) (r.r.calm hc) (hi X G C pn W k r.r) (fun N' hN' => hg X G C pn W k N' r (by rw [hN', hN])) (fun N' hN' => hb X G C pn W k N' r (by rw [hN', hN])) (fun e => evs_bors e) (no_fold hn)
end
end PI
/-! PJ, part d: contexts within: try's body, an except suite, a comprehension's block. -/
namespace PI
open PySem PySem.Spec L2 PyProof.Rows
section
variable {X : Cx} {G : Txt} {C : Ctx} {S : Sc} {pn : List (Addr × Obj)} {W : WX} {k : Nat}
theorem Mode.room {b : Bool} (md : Mode X k b pn) (h : b = true) : Room k X.A ∧ pn = [] ∧ X.calm = true := by
  cases md with
  | calm c r => exact ⟨r, rfl, c⟩
  | hot p r f m => cases h
theorem Rdy.tr (r : Rdy X G C S pn W k) (hc : S.calm = true) {pn' : List (Addr × Obj)} {xe : Value → Shared → Prop} {W' : WX} (tk : Takes (X.tr pn' xe) W') : Rdy (X.tr pn' xe) G C S [] W' k where
  cnd := ⟨r.cnd.K, r.cnd.units, r.cnd.guards, r.cnd.sm⟩
  nod := r.nod
  N := r.N
  sc := r.sc
  fn := r.fn
  kind := r.kind
  md := by
    rw [hc]
    obtain ⟨a, _, c⟩ := r.md.room hc
    exact .calm c a
  tk := tk
  T := r.T
  F := r.F
  M := r.M
  two := r.two
  exn := r.exn
  exm := r.exm
  glob := fun x g h => by
    have := r.glob x g h
    cases g <;> exact this
  callA := fun f a e => ⟨(r.callA f a e).1, fun X' pn2 W2 b L => (r.callA f a e).2 X' pn2 W2 b ⟨L.p, L.w, L.K, L.m, L.b⟩⟩
def Sc.hots (S : Sc) : Sc := { S with calm := false }
theorem takes_none {X : Cx} : Takes X fun _ _ _ _ => False := fun u s' h => by
  obtain ⟨_, _, _, _, _, _, _, _, _, _, _, _, _, _, _, _, h⟩ := h
  exact h.elim
theorem Rdy.suite (r : Rdy X G C S pn W k) (hc : S.calm = true) {a : Addr} {oe : Obj} {pn' : List (Addr × Obj)} (hf : ∃ vs, oe.data = .fields vs) : Rdy (X.suite a ((a, oe) :: pn')) G C S.hots [(a, oe)] (fun _ _ _ _ => False) k where
  cnd := ⟨r.cnd.K, r.cnd.units, r.cnd.guards, r.cnd.sm⟩
  nod := r.nod
  N := r.N
  sc := r.sc
  fn := r.fn
  kind := r.kind
  md := by
    obtain ⟨b, _, _⟩ := r.md.room hc
    exact .hot (a, oe) ⟨b.dp, b.un⟩ hf List.mem_cons_self
  tk := takes_none
  T := r.T
  F := r.F
  M := r.M
  two := r.two
  exn := r.exn
  exm := r.exm
  glob := fun x g h => by
    have := r.glob x g h
    cases g <;> exact this
  callA := fun f a e => ⟨(r.callA f a e).1, fun X' pn2 W2 b L => (r.callA f a e).2 X' pn2 W2 b ⟨L.p, L.w, L.K, L.m, L.b⟩⟩
def Sc.sub (S : Sc) (sc : List (Str × NameKind)) : Sc := { S with sc := sc.map fun (n, k) => if (k == NameKind.free && S.sc.lookup n == some .cell) then (n, NameKind.cell) else (n, k), fnc := fun x => sc.lookup x == some .cell }
theorem Rdy.blk (r : Rdy X G C S pn W k) (hc : S.calm = true) (s : Shared) (H : Hp) (scope : Scope) (hk : scope.kind = .function) (cl : List (Str × Addr)) (Cc : Addr) (fp : List Addr) : Rdy (X.blk s H scope (compEnvC scope cl Cc X.env) fp) G C (S.sub scope.names) [] noW k where
  cnd := ⟨r.cnd.K, r.cnd.units, r.cnd.guards, r.cnd.sm⟩
  nod := r.nod
  N := r.N
  sc := by
    show (relabel scope X.env).names = _
    unfold relabel Sc.sub Env.kindOf
    rw [r.kind, r.sc]
    simp
  fn := fun x h => h
  kind := hk
  md := by
    obtain ⟨a, _, c⟩ := r.md.room hc
    rw [show (S.sub scope.names).calm = true from hc]
    exact .calm c a
  tk := takes_none
  T := r.T
  F := r.F
  M := r.M
  two := r.two
  exn := r.exn
  exm := r.exm
  glob := fun x g h => by
    have := r.glob x g h
    cases g <;> exact this
  callA := fun f a e => ⟨(r.callA f a e).1, fun X' pn2 W2 b L => (r.callA f a e).2 X' pn2 W2 b ⟨L.p, L.w, L.K, L.m, L.b⟩⟩
end
end PI
/-! PJ, part e: raise, try. -/
namespace PI
open PySem PySem.Spec L2 PyProof.Rows
section
variable {S : Sc} {fx : List Nat}
theorem z_raise {K : Nat} {x : Str} {e : Expr} {es : List Expr} {cs : CEs} {p p2 pos : Pos} (hc : S.calm = true) (hg : globB S x (.exc K false) = true) (hs : star e = false) (hst : es.all (fun e => !star e) = true) (ha : RcAs S cs (e :: es)) :
    RcS S fx (.raise K cs) (.Raise (some (.Call (.Name x p) (e :: es) [] p2)) none pos) := fun X G C pn W k N r hN => by
  obtain ⟨g1, ⟨g2, c, g5, g6, g7⟩, g3, g4⟩ := r.r.gl hg
  obtain ⟨b1, b2, b3⟩ := r.r.md.room hc
  subst b2
  cases r.r.exn K c g5 g6 with
  | init hnz fI fd ps T iC tI hno hle F1 hb =>
    exact s_raise r.r.T g5 b3 r.r.tk T iC tI hno hle F1 (b1.mono r.r.two) hb g1 g2 (ha X G C [] W k r.r) g3 (star_each hs) (star_all hst)
  | bare bmB B newId initId hz F hq kC hss ht =>
    rw [hz] at g7
    cases g7
theorem z_raise0 {K : Nat} {x : Str} {p p2 pos : Pos} (hc : S.calm = true) (hg : globB S x (.exc K true) = true) : RcS S fx (.raise K .nil) (.Raise (some (.Call (.Name x p) [] [] p2)) none pos) := fun X G C pn W k N r hN => by
  obtain ⟨g1, ⟨g2, c, g5, g6, g7⟩, g3, g4⟩ := r.r.gl hg
  obtain ⟨b1, b2, b3⟩ := r.r.md.room hc
  subst b2
  cases r.r.exn K c g5 g6 with
  | bare bmB B newId initId hz F hq kC hss ht =>
    exact s_raise0 r.r.T g5 hz b3 r.r.tk F hq kC (raises_own hss ht) g1 g2 g3
  | init hnz fI fd ps T iC tI hno hle F1 hb => exact absurd (List.isEmpty_iff.mp g7) hnz
theorem RdyS.tr {X : Cx} {G : Txt} {C : Ctx} {pn : List (Addr × Obj)} {W : WX} {k : Nat} (r : RdyS X G C S pn W k) (hc : S.calm = true) {pn' : List (Addr × Obj)} {xe : Value → Shared → Prop} {W' : WX} (tk : Takes (X.tr pn' xe) W') (po : PassesOwn (model X.prog X.w) X.A X.env xe) : RdyS (X.tr pn' xe) G C S [] W' k := ⟨r.r.tr hc tk, fun _ => po, r.st, r.fr⟩
theorem RdyS.suite {X : Cx} {G : Txt} {C : Ctx} {pn : List (Addr × Obj)} {W : WX} {k : Nat} (r : RdyS X G C S pn W k) (hc : S.calm = true) {a : Addr} {oe : Obj} {pn' : List (Addr × Obj)} (hf : ∃ vs, oe.data = .fields vs) : RdyS (X.suite a ((a, oe) :: pn')) G C S.hots [(a, oe)] (fun _ _ _ _ => False) k := ⟨r.r.suite hc hf, fun z => (by cases z), r.st, r.fr⟩
theorem z_try {K i : Nat} {bb : Bool} {x n : Str} {body suite : List Stmt} {b0 : Stmt} {np pos' pos : Pos} {b h : CSs} (hc : S.calm = true) (hg : globB S x (.exc K bb) = true) (hi : decide (S.N[i]? = some n) = true) (hl : decide (S.sc.lookup n = some .local) = true) (hn : nix i fx = true) (hb : RcSs S fx b body) (hs : RcSs S.hots fx h (b0 :: suite)) :
    RcS S fx (.tryE b K i h) (.Try body [.ExceptHandler (some (.Name x np)) (some n) (b0 :: suite) pos'] [] [] pos) := fun X G C pn W k N r hN => by
  obtain ⟨g1, ⟨g2, c, g5, g6, g7⟩, g3, g4⟩ := r.r.gl hg
  obtain ⟨b1, b2, b3⟩ := r.r.md.room hc
  subst b2
  exact s_try r.st r.fr r.r.nod (by rw [r.r.N]; exact of_decide_eq_true hi) (by unfold Env.kindOf; rw [r.r.sc]; exact of_decide_eq_true hl) (by rw [hN]; exact nix_no hn) ⟨g1, g3, .inl g2⟩ r.r.tk r.r.T
    (fun K' c' hT => r.r.exm K' c' K c hT g5 g6)
    (fun W' pn' xe tk po => hb _ G C [] W' k N (r.tr hc tk po) hN) (fun a oe pn' hf => hs _ G C _ _ k N (r.suite hc hf) hN)
theorem z_try0 {K : Nat} {bb : Bool} {x : Str} {body suite : List Stmt} {b0 : Stmt} {np pos' pos : Pos} {b h : CSs} (hc : S.calm = true) (hg : globB S x (.exc K bb) = true) (hb : RcSs S fx b body) (hs : RcSs S.hots fx h (b0 :: suite)) :
    RcS S fx (.tryO b K h) (.Try body [.ExceptHandler (some (.Name x np)) none (b0 :: suite) pos'] [] [] pos) := fun X G C pn W k N r hN => by
  obtain ⟨g1, ⟨g2, c, g5, g6, g7⟩, g3, g4⟩ := r.r.gl hg
  obtain ⟨b1, b2, b3⟩ := r.r.md.room hc
  subst b2
  exact s_try0 r.st r.fr ⟨g1, g3, .inl g2⟩ r.r.tk r.r.T
    (fun K' c' hT => r.r.exm K' c' K c hT g5 g6)
    (fun W' pn' xe tk po => hb _ G C [] W' k N (r.tr hc tk po) hN) (fun a oe pn' hf => hs _ G C _ _ k N (r.suite hc hf) hN)
end
end PI
/-! PJ, part f: a, b = x, y. -/
namespace PI
open PySem PySem.Spec L2 PyProof.Rows
section
variable {G : Txt} {pn : List (Addr × Obj)}
/-- values in hand, what of them is ours alone at as -/
def OvR (G : Txt) (pn : List (Addr × Obj)) (O : Addr → Prop) (H : Hp) : List D → List V → List Addr → Prop
  | [], vs, as => vs = [] ∧ as = []
  | d :: ds, vs, as => ∃ v r, vs = v :: r ∧ ((d.own = false ∧ RelD G pn O H d v ∧ OvR G pn O H ds r as) ∨ (d.own = true ∧ ∃ a r', as = a :: r' ∧ v = .ref a ∧ BodyR G pn O H d v ∧ OvR G pn O H ds r r'))
def With (Of : Addr → Prop) (as : List Addr) : Addr → Prop := fun b => Of b ∨ b ∈ as
def OvsR (G : Txt) (pn : List (Addr × Obj)) : RT (List D) (List V) := fun Of ρ σ H H' ds vs => ∃ as, as.Nodup ∧ (∀ a ∈ as, H a = none ∧ ¬ Of a) ∧ SR G pn (With Of as) H' ρ σ ∧ OvR G pn (Oo (With Of as) ρ σ) H' ds vs as
variable {O O' Of : Addr → Prop} {H H' : Hp} {ρ ρ' : Env} {σ : L2.St}
theorem OvR.less (n : ∀ b, O' b → O b) : ∀ {ds : List D} {vs : List V} {as : List Addr}, OvR G pn O H ds vs as → OvR G pn O' H ds vs as
  | [], vs, as, h => h
  | d :: ds, vs, as, ⟨v, r, e, h⟩ => ⟨v, r, e, match h with
    | .inl ⟨h1, h2, h3⟩ => .inl ⟨h1, h2.less n, OvR.less n h3⟩
    | .inr ⟨h1, a, r', e1, e2, h2, h3⟩ => .inr ⟨h1, a, r', e1, e2, h2.mono Kp.refl (fun b q => .inl (n b q)) (fun _ _ _ _ z => z) (fun z => by rw [h1] at z; cases z), OvR.less n h3⟩⟩
theorem back_ovs : BackR (OvsR G pn) := fun Of ρ' σ H H1 H' ds vs b ⟨as, h1, h2, h3⟩ => ⟨as, h1, fun a q => ⟨b a (h2 a q).1, (h2 a q).2⟩, h3⟩
end
section
variable {X : Cx} {G : Txt} {pn : List (Addr × Obj)} {W : WX} {C : Ctx}
def DOs (X : Cx) (G : Txt) (pn : List (Addr × Obj)) (W : WX) (es : List Expr) (f : Env → Out (List D)) : Prop := PA X es (tG G pn W (OvsR G pn) f)
theorem dos_nil : DOs X G pn W [] (evo C .nil) := PA.imp pa_nil fun σ H Q ⟨Of, ρ, S, hp⟩ => by
  unfold evo at hp
  exact PostG.now (b := []) S (show OvsR G pn Of ρ σ H H [] [] from ⟨[], List.nodup_nil, fun a q => (by cases q), S.less fun b q => q.elim id fun z => (by cases z), rfl, rfl⟩) hp
theorem ExcR.less' {O O' : Addr → Prop} {H : Hp} {e : D} {cls : Value} {dd : Option Addr} (r : ExcR G pn O H e cls dd) (n : ∀ b, O' b → O b) : ExcR G pn O' H e cls dd := by
  obtain ⟨K', ws, c', e1, hT', ec, rv⟩ := r
  exact ⟨K', ws, c', e1, hT', ec, rv.imp id fun ⟨d, ws', fs, ed, h1, h2, h3, h4, h5⟩ => ⟨d, ws', fs, ed, fun q => h1 (n d q), h2, h3, h4, RelDs.less h5 n⟩⟩
theorem dos_cons {e : Expr} {es : List Expr} {c : CE} {r : CEs} (h1 : DE X G pn W e (ev C c)) (h2 : DOs X G pn W es (evo C r)) (hs : starEach (e :: es) X.env = (false, eval e X.env) :: starEach es X.env) : DOs X G pn W (e :: es) (evo C (.cons (.ex c) r)) := by
  refine PA.imp (pa_cons h1 h2 hs) fun σ H Q ⟨Of, ρ, S, hp⟩ => ⟨Of, ρ, S, ?_⟩
  unfold evo bd at hp
  cases ee : ev C c ρ with
  | stuck => rw [ee] at hp; exact (show False from hp).elim
  | exc x ρ1 => rw [ee] at hp; exact hp
  | ok x ρ1 =>
    rw [ee] at hp
    intro v H1 k s S1 r1
    have bk : ∀ p, H1 p = none → H p = none := fun p z => k.back (fun b hb => by
      obtain ⟨o, q, _⟩ := S1.lot (a := b) (by rw [s.lo]; exact hb)
      rw [q]; simp) z
    simp only [bd] at hp
    cases ho : x.own with
    | false =>
      have r0 := r1.1 ho
      refine ⟨Of, ρ1, S1, ?_⟩
      cases er : evo C r ρ1 with
      | stuck => rw [er] at hp; exact (show False from hp).elim
      | exc y ρ2 =>
        rw [er] at hp
        exact fun H2 cls dd k2 s2 S2 r2 => hp H2 cls dd (k.trans (by rw [← s.lo]; exact k2)) (s.trans s2) S2 r2
      | ok xs ρ2 =>
        rw [er] at hp
        intro vs H2 k2 s2 S2 ⟨as, n1, n2, S3, r2⟩
        refine hp (v :: vs) H2 (k.trans (by rw [← s.lo]; exact k2)) (s.trans s2) S2 ⟨as, n1, fun b q => ⟨bk b (n2 b q).1, (n2 b q).2⟩, S3, v, vs, rfl, .inl ⟨ho, ?_, r2⟩⟩
        refine RelD.mono (k2.mono fun b q => .inr q) (fun b q => ?_) x v r0
        rcases q with (q | q) | q
        · exact .inl (.inl q)
        · exact .inr (n2 b q).1
        · exact .inl (.inr (by rw [← s2.lo]; exact q))
    | true =>
      obtain ⟨a, rfl, n, S2, hb⟩ := r1.2 ho
      refine ⟨fun b => Of b ∨ b = a, ρ1, S2, ?_⟩
      have na : ¬ Of a := fun z => by
        obtain ⟨o, q, _⟩ := S.oft a z
        rw [n] at q
        cases q
      cases er : evo C r ρ1 with
      | stuck => rw [er] at hp; exact (show False from hp).elim
      | exc y ρ2 =>
        rw [er] at hp
        exact fun H2 cls dd k2 s2 S3 r2 => hp H2 cls dd (k.trans (by rw [← s.lo]; exact k2)) (s.trans s2) (S3.less fun b q => .inl q) (r2.less' fun b q => q.imp .inl id)
      | ok xs ρ2 =>
        rw [er] at hp
        intro vs H2 k2 s2 S3 ⟨as, n1, n2, S4, r2⟩
        have eW : ∀ b, With Of (a :: as) b → With (fun b => Of b ∨ b = a) as b := fun b q => by
          rcases q with q | q
          · exact .inl (.inl q)
          · rcases List.mem_cons.mp q with q | q
            · exact .inl (.inr q)
            · exact .inr q
        have eO : ∀ b, Oo (With Of (a :: as)) ρ2 σ b → Oo (With (fun b => Of b ∨ b = a) as) ρ2 σ b := fun b q => q.imp (eW b) id
        have ha1 : ∃ o, H1 a = some o := by
          obtain ⟨o, q, _⟩ := S2.oft a (.inr rfl)
          exact ⟨o, q⟩
        refine hp (.ref a :: vs) H2 (k.trans (by rw [← s.lo]; exact k2)) (s.trans s2) (S3.less fun b q => .inl q)
          ⟨a :: as, List.nodup_cons.mpr ⟨fun q => (n2 a q).2 (.inr rfl), n1⟩, fun b q => ?_, S4.less eW, .ref a, vs, rfl, .inr ⟨ho, a, as, rfl, rfl, ?_, OvR.less eO r2⟩⟩
        · rcases List.mem_cons.mp q with q | q
          · rw [q]
            exact ⟨n, na⟩
          · exact ⟨bk b (n2 b q).1, fun z => (n2 b q).2 (.inl z)⟩
        · refine BodyR.mono hb (k2.mono fun b q => .inr q) (fun b q => ?_) (fun a' o ea _ e1 => ?_) fun z => by rw [ho] at z; cases z
          · rcases eO b q with ((q | q) | q) | q
            · exact .inl (.inl (.inl q))
            · exact .inl (.inl (.inr q))
            · exact .inr (n2 b q).1
            · exact .inl (.inr (by rw [← s2.lo]; exact q))
          · cases ea
            obtain ⟨o', q1, q2⟩ := S2.oft a (.inr rfl)
            rw [e1] at q1
            cases q1
            exact k2.keep a o e1 (fun z => S2.dis a z (.inr rfl)) q2
end
end PI
/-! PJ, part g: a, b = x, y, the stores. -/
namespace PI
open PySem PySem.Spec L2 PyProof.Rows
section
variable {G : Txt} {pn : List (Addr × Obj)} {Of : Addr → Prop} {H : Hp} {ρ ρ' : Env} {σ : L2.St} {N : Ent}
def setS : L2.St → List Nat → List V → L2.St
  | σ, i :: is, v :: vs => setS (σ.set i (some v)) is vs
  | σ, _, _ => σ
/-- one store of what is in hand -/
theorem SR.store {d : D} {v : V} {i : Nat} {as : List Addr} (S : SR G pn (With Of as) H ρ σ) (hi : i < ρ.length) :
    (d.own = false → RelD G pn (Oo (With Of as) ρ σ) H d v → SR G pn (With Of as) H (ρ.set i (some d)) (σ.set i (some v)) ∧ ∀ b, Lo (ρ.set i (some d)) (σ.set i (some v)) b → Lo ρ σ b) ∧
    (∀ a, a ∉ as → ¬ Of a → d.own = true → v = .ref a → SR G pn (With Of (a :: as)) H ρ σ → BodyR G pn (Oo (With Of (a :: as)) ρ σ) H d v → SR G pn (With Of as) H (ρ.set i (some d)) (σ.set i (some v)) ∧ ∀ b, Lo (ρ.set i (some d)) (σ.set i (some v)) b → Lo ρ σ b ∨ b = a) := by
  refine ⟨fun ho r => ?_, fun a na nOf ho ev S2 hb => ?_⟩
  · have s : StOk G pn ⟨Lo ρ σ, H, [], σ, With Of as⟩ H ρ σ := ⟨S, Kp.refl, fun a q => .inl q, (fun j hj => by cases hj), (fun a q z => by
      obtain ⟨o, e, _⟩ := S.lot q
      rw [z] at e
      cases e), S.dis, fun a q z => by
      obtain ⟨o, e, _⟩ := S.oft a q
      have z : H a = none := z
      rw [z] at e
      cases e⟩
    have s2 := s.put (i := i) (d := d) (v := v) ⟨fun _ => r, fun z => by rw [ho] at z; cases z⟩ hi (fun z => by cases z)
    refine ⟨s2.S, fun b ⟨j, q⟩ => ?_⟩
    rcases own_set hi S.len q with ⟨_, e, d', e', z⟩ | ⟨_, q⟩
    · cases e'
      rw [ho] at z
      cases z
    · exact ⟨j, q⟩
  · subst ev
    have nL : ¬ Lo ρ σ a := fun q => S2.dis a q (.inr List.mem_cons_self)
    have s : StOk G pn ⟨fun b => Lo ρ σ b ∨ b = a, H, [], σ, With Of as⟩ H ρ σ := ⟨S, Kp.refl, fun a q => .inl (.inl q), (fun j hj => by cases hj), (fun b q z => by
      rcases q with q | q
      · obtain ⟨o, e, _⟩ := S.lot q
        rw [z] at e
        cases e
      · obtain ⟨o, e, _⟩ := S2.oft a (.inr List.mem_cons_self)
        rw [q] at z
        rw [z] at e
        cases e), (fun b q z => by
      rcases q with q | q
      · exact S.dis b q z
      · rw [q] at z
        exact z.elim nOf na), fun b q z => by
      obtain ⟨o, e, _⟩ := S.oft b q
      have z : H b = none := z
      rw [z] at e
      cases e⟩
    have eq : ∀ b, With Of as b ∨ b = a → With Of (a :: as) b := fun b q => by
      rcases q with (q | q) | q
      · exact .inl q
      · exact .inr (List.mem_cons_of_mem _ q)
      · exact .inr (by rw [q]; exact List.mem_cons_self)
    have s2 := s.put (i := i) (d := d) (v := .ref a) ⟨(fun z => by rw [ho] at z; cases z), fun _ => ⟨a, rfl, .inl (.inr rfl), S2.less eq, hb.mono Kp.refl (fun b q => .inl (q.imp (eq b) id)) (fun _ _ _ _ z => z) fun z => by rw [ho] at z; cases z⟩⟩ hi (fun z => by cases z)
    refine ⟨s2.S, fun b ⟨j, q⟩ => ?_⟩
    rcases own_set hi S.len q with ⟨_, e, _⟩ | ⟨_, q⟩
    · cases e
      exact .inr rfl
    · exact .inl ⟨j, q⟩
/-- all stores -/
theorem SR.stores : ∀ {is : List Nat} {ds : List D} {vs : List V} {as : List Addr} {ρ ρ' : Env} {σ : L2.St}, as.Nodup → (∀ a ∈ as, ¬ Of a) → SR G pn (With Of as) H ρ σ → OvR G pn (Oo (With Of as) ρ σ) H ds vs as → ordD ρ is ds = some ρ' →
    SR G pn Of H ρ' (setS σ is vs) ∧ (∀ b, Lo ρ' (setS σ is vs) b → Lo ρ σ b ∨ b ∈ as)
  | [], [], vs, as, ρ, ρ', σ, n1, n2, S, r, e => by
    cases e
    have ev : setS σ [] vs = σ := by cases vs <;> rfl
    rw [ev]
    exact ⟨S.less fun b q => .inl q, fun b q => .inl q⟩
  | [], _ :: _, vs, as, ρ, ρ', σ, n1, n2, S, r, e => by cases e
  | _ :: _, [], vs, as, ρ, ρ', σ, n1, n2, S, r, e => by cases e
  | i :: is, d :: ds, vs, as, ρ, ρ', σ, n1, n2, S, r, e => by
    unfold ordD at e
    split at e
    · rename_i hi
      obtain ⟨v, rs, rfl, r⟩ := r
      rcases r with ⟨ho, r1, r2⟩ | ⟨ho, a, as', rfl, ev, r1, r2⟩
      · obtain ⟨S1, l1⟩ := (SR.store (d := d) (v := v) (i := i) S hi).1 ho r1
        obtain ⟨S2, l2⟩ := SR.stores n1 n2 S1 (OvR.less (fun b q => q.imp id (l1 b)) r2) e
        exact ⟨S2, fun b q => (l2 b q).imp (l1 b) id⟩
      · have n1' := List.nodup_cons.mp n1
        have S0 : SR G pn (With Of as') H ρ σ := S.less fun b q => q.imp id (List.mem_cons_of_mem _)
        obtain ⟨S1, l1⟩ := (SR.store (d := d) (v := v) (i := i) S0 hi).2 a n1'.1 (n2 a List.mem_cons_self) ho ev S r1
        have lo : ∀ b, Oo (With Of as') (ρ.set i (some d)) (σ.set i (some v)) b → Oo (With Of (a :: as')) ρ σ b := fun b q => by
          rcases q with (q | q) | q
          · exact .inl (.inl q)
          · exact .inl (.inr (List.mem_cons_of_mem _ q))
          · rcases l1 b q with q | q
            · exact .inr q
            · exact .inl (.inr (by rw [q]; exact List.mem_cons_self))
        obtain ⟨S2, l2⟩ := SR.stores n1'.2 (fun b q => n2 b (List.mem_cons_of_mem _ q)) S1 (OvR.less lo r2) e
        refine ⟨S2, fun b q => ?_⟩
        rcases l2 b q with q | q
        · exact (l1 b q).imp id fun z => by rw [z]; exact List.mem_cons_self
        · exact .inr (List.mem_cons_of_mem _ q)
    · cases e
theorem setS_get {j : Nat} : ∀ {is : List Nat} {vs : List V} {σ : L2.St}, j ∉ is → (setS σ is vs)[j]? = σ[j]?
  | [], vs, σ, h => by cases vs <;> rfl
  | i :: is, [], σ, h => rfl
  | i :: is, v :: vs, σ, h => by
    unfold setS
    rw [setS_get fun z => h (List.mem_cons_of_mem _ z), List.getElem?_set_ne fun z => h (by rw [z]; exact List.mem_cons_self)]
theorem ordD_len : ∀ {is : List Nat} {ds : List D} {ρ ρ' : Env}, ordD ρ is ds = some ρ' → ds.length = is.length
  | [], [], _, _, _ => rfl
  | [], _ :: _, _, _, e => by cases e
  | _ :: _, [], _, _, e => by cases e
  | i :: is, d :: ds, ρ, ρ', e => by
    unfold ordD at e
    split at e
    · rw [List.length_cons, List.length_cons, ordD_len e]
    · cases e
theorem ovr_len {O : Addr → Prop} : ∀ {ds : List D} {vs : List V} {as : List Addr}, OvR G pn O H ds vs as → vs.length = ds.length
  | [], vs, as, e => by rw [e.1]; rfl
  | d :: ds, vs, as, ⟨v, r, e, h⟩ => by
    rw [e, List.length_cons, List.length_cons]
    rcases h with ⟨_, _, h⟩ | ⟨_, a, r', _, _, _, h⟩
    · rw [ovr_len h]
    · rw [ovr_len h]
variable {X : Cx} {W : WX} {C : Ctx}
theorem par_red {is : List Nat} {cs : CEs} {D : Ends} (hf : ∀ i ∈ is, i ∉ N.fix) (s : StOk G pn N H ρ σ) (h : PostS G pn W N (run C (.par is cs) ρ) D) : PostG G pn W (OvsR G pn) N.Of H ρ σ (evo C cs ρ) fun vs H1 => vs.length = is.length ∧ D.nx (setS σ is vs) H1 := by
  unfold run bd at h
  cases ee : evo C cs ρ with
  | stuck => rw [ee] at h; exact (show False from h).elim
  | exc x ρ1 =>
    rw [ee] at h
    exact fun H' cls dd k s' S' r => h σ H' cls dd (s.step k s' S') r
  | ok ds ρ1 =>
    rw [ee] at h
    intro vs H1 k s1 S1 ⟨as, n1, n2, S2, r⟩
    have st := s.step k s1 S1
    simp only at h
    cases eo : ordD ρ1 is ds with
    | none => rw [eo] at h; exact (show False from h).elim
    | some ρ2 =>
      rw [eo] at h
      obtain ⟨S3, l3⟩ := SR.stores n1 (fun a q => (n2 a q).2) S2 r eo
      refine ⟨by rw [ovr_len r, ordD_len eo], h _ _ ⟨S3, st.kp, fun a q => ?_, fun j hj => ?_, st.th, st.ol, st.oh⟩⟩
      · rcases l3 a q with q | q
        · exact st.lo a q
        · by_cases z : N.L0 a
          · exact .inl z
          · by_cases z2 : N.H0 a = none
            · exact .inr z2
            · obtain ⟨o, e0⟩ : ∃ o, N.H0 a = some o := by
                cases e : N.H0 a with
                | none => exact absurd e z2
                | some o => exact ⟨o, rfl⟩
              exfalso
              have hn := (n2 a q).1
              by_cases t : ∃ ps, o = .tbl ps
              · obtain ⟨ps, rfl⟩ := t
                obtain ⟨ps', e1⟩ := s.kp.tb a ps e0
                rw [hn] at e1
                cases e1
              · have e1 := s.kp.keep a o e0 z fun ps t' => t ⟨ps, t'⟩
                rw [hn] at e1
                cases e1
      · rw [setS_get fun z => hf j z hj]
        exact st.fx j hj
end
section
variable {X : Cx} {G : Txt} {pn : List (Addr × Obj)} {W : WX} {C : Ctx} {N : Ent} {pos : Pos}
theorem s_par {i j : Nat} {x y : Str} {a b : Expr} {cs : CEs} {px py pt : Pos} {kt k2 pt2} (hc : X.calm = true) (hN : X.N.Nodup) (hi : X.N[i]? = some x) (hj : X.N[j]? = some y) (hij : i ≠ j)
    (hx : X.env.scope.names.lookup x = some .local) (hy : X.env.scope.names.lookup y = some .local) (hf : ∀ n ∈ [i, j], n ∉ N.fix) (ha : DOs X G pn W [a, b] (evo C cs))
    (hw : swappedStores [.Tuple [.Name x px, .Name y py] kt pt] (.Tuple [a, b] k2 pt2) X.env = pure (some [x, y])) :
    DS X G pn W N (.Assign [.Tuple [.Name x px, .Name y py] kt pt] (.Tuple [a, b] k2 pt2) pos) (run C (.par [i, j] cs)) := by
  refine PS.imp (ps_par hc hN hi hj hij hx hy ha hw) fun D σ H ⟨ρ, s, h⟩ => ⟨N.Of, ρ, s.S, PostG.mono (par_red hf s h) fun vs H1 ⟨hl, q⟩ => ?_⟩
  obtain ⟨v, w, rfl⟩ : ∃ v w, vs = [v, w] := by
    match vs, hl with
    | [v, w], _ => exact ⟨v, w, rfl⟩
  exact ⟨v, w, rfl, q⟩
theorem s_par3 {i j l : Nat} {x y z : Str} {a b c : Expr} {cs : CEs} {px py pz pt : Pos} {kt k2 pt2} (hc : X.calm = true) (hN : X.N.Nodup) (hi : X.N[i]? = some x) (hj : X.N[j]? = some y) (hl : X.N[l]? = some z) (hij : i ≠ j) (hil : i ≠ l) (hjl : j ≠ l)
    (hx : X.env.scope.names.lookup x = some .local) (hy : X.env.scope.names.lookup y = some .local) (hz : X.env.scope.names.lookup z = some .local) (hf : ∀ n ∈ [i, j, l], n ∉ N.fix) (ha : DOs X G pn W [a, b, c] (evo C cs))
    (hw : swappedStores [.Tuple [.Name x px, .Name y py, .Name z pz] kt pt] (.Tuple [a, b, c] k2 pt2) X.env = pure (some [x, y, z])) :
    DS X G pn W N (.Assign [.Tuple [.Name x px, .Name y py, .Name z pz] kt pt] (.Tuple [a, b, c] k2 pt2) pos) (run C (.par [i, j, l] cs)) := by
  refine PS.imp (ps_par3 hc hN hi hj hl hij hil hjl hx hy hz ha hw) fun D σ H ⟨ρ, s, h⟩ => ⟨N.Of, ρ, s.S, PostG.mono (par_red hf s h) fun vs H1 ⟨hl, q⟩ => ?_⟩
  obtain ⟨u, v, w, rfl⟩ : ∃ u v w, vs = [u, v, w] := by
    match vs, hl with
    | [u, v, w], _ => exact ⟨u, v, w, rfl⟩
  exact ⟨u, v, w, rfl, q⟩
end
end PI
/-! PJ, part h: a, b = x, y for the checker; the statements' checker. -/
namespace PI
open PySem PySem.Spec L2 PyProof.Rows
def swN (env : PySem.Env) (line : Nat) : Expr → Option Str
  | .Name id pos => if env.kindOf id == some .local && pos.line == line then some id else none
  | _ => none
def swS (env : PySem.Env) (ts vs : List Expr) : Sem (Option (List Str)) :=
  if (!(ts.length == 2 || ts.length == 3) || vs.length != ts.length || env.blockKind != .function) = true then pure none else
  if (vs.any star) = true then pure none else
  if ((ts.filterMap (swN env ((ts.head?.map (·.pos.line)).getD 0))).length != ts.length || (ts.filterMap (swN env ((ts.head?.map (·.pos.line)).getD 0))).eraseDups.length != (ts.filterMap (swN env ((ts.head?.map (·.pos.line)).getD 0))).length) = true then pure none else
  if (vs.all (foldedForSure 8)) = true then pure none else
  if (vs.all (constantsAlone 8)) = true then (do unsupported "assign.tuple-of-constant-expressions:order-of-the-stores"; pure (some (ts.filterMap (swN env ((ts.head?.map (·.pos.line)).getD 0))))) else
  pure (some (ts.filterMap (swN env ((ts.head?.map (·.pos.line)).getD 0))))
theorem sw_eq {ts vs : List Expr} {k k2 : Nat} {p p2 : Pos} {env : PySem.Env} : swappedStores [.Tuple ts k p] (.Tuple vs k2 p2) env = swS env ts vs := by
  unfold swappedStores swS
  rfl
theorem not_f {b : Bool} (h : (!b) = true) : b = false := by
  cases b with
  | false => rfl
  | true => cases h
theorem swN_eq {env : PySem.Env} {line : Nat} {x : Str} {p : Pos} (h : env.kindOf x = some .local) (hl : (p.line == line) = true) : swN env line (.Name x p) = some x := by
  show (if (env.kindOf x == some NameKind.local && p.line == line) = true then some x else none) = some x
  rw [h, hl]
  rfl
theorem sw_none {ts vs : List Expr} {k k2 : Nat} {p p2 : Pos} {env : PySem.Env} (h : (!(ts.length == 2 || ts.length == 3) || vs.length != ts.length || vs.all (foldedForSure 8)) = true) : swappedStores [.Tuple ts k p] (.Tuple vs k2 p2) env = pure none := by
  rw [sw_eq]
  unfold swS
  split
  · rfl
  · rename_i h1
    split
    · rfl
    · split
      · rfl
      · split
        · rfl
        · rename_i h4
          exfalso
          simp only [Bool.or_eq_true] at h h1
          rcases h with (h | h) | h
          · exact h1 (.inl (.inl h))
          · exact h1 (.inl (.inr h))
          · exact h4 h
def loc1 (S : Sc) (x : Str) : Bool := decide (S.sc.lookup x = some .local)
section
variable {S : Sc} {fx : List Nat}
theorem sw_two {x y : Str} {px py pt p2 : Pos} {k k2 : Nat} {a b : Expr} {env : PySem.Env} (hk : env.scope.kind = .function) (hs : env.scope.names = S.sc) (hx : loc1 S x = true) (hy : loc1 S y = true) (hl : (py.line == px.line) = true) (hxy : decide (x ≠ y) = true) (hst : ([a, b].any star) = false) (h1 : ([a, b].all (foldedForSure 8)) = false) (h2 : ([a, b].all (constantsAlone 8)) = false) :
    swappedStores [.Tuple [.Name x px, .Name y py] k pt] (.Tuple [a, b] k2 p2) env = pure (some [x, y]) := by
  have ex : env.kindOf x = some .local := by unfold Env.kindOf; rw [hs]; exact of_decide_eq_true hx
  have ey : env.kindOf y = some .local := by unfold Env.kindOf; rw [hs]; exact of_decide_eq_true hy
  have eb : env.blockKind = .function := by unfold Env.blockKind; rw [hk]; rfl
  have n : x ≠ y := of_decide_eq_true hxy
  have en : [Expr.Name x px, .Name y py].filterMap (swN env (((List.head? [Expr.Name x px, .Name y py]).map (·.pos.line)).getD 0)) = [x, y] := by
    show [Expr.Name x px, .Name y py].filterMap (swN env px.line) = [x, y]
    have e1 : swN env px.line (.Name x px) = some x := swN_eq ex (by simp)
    have e2 : swN env px.line (.Name y py) = some y := swN_eq ey hl
    simp [List.filterMap, e1, e2]
  rw [sw_eq]
  unfold swS
  rw [en, eb, hst, h1, h2]
  have e3 : ([x, y] : List Str).eraseDups = [x, y] := by simp [List.eraseDups_cons, n, Ne.symm n]
  rw [e3]
  rfl
theorem sw_three {x y z : Str} {px py pz pt p2 : Pos} {k k2 : Nat} {a b c : Expr} {env : PySem.Env} (hk : env.scope.kind = .function) (hs : env.scope.names = S.sc) (hx : loc1 S x = true) (hy : loc1 S y = true) (hz : loc1 S z = true) (hl : (py.line == px.line) = true) (hl2 : (pz.line == px.line) = true) (hxy : decide (x ≠ y) = true) (hxz : decide (x ≠ z) = true) (hyz : decide (y ≠ z) = true)
    (hst : ([a, b, c].any star) = false) (h1 : ([a, b, c].all (foldedForSure 8)) = false) (h2 : ([a, b, c].all (constantsAlone 8)) = false) :
    swappedStores [.Tuple [.Name x px, .Name y py, .Name z pz] k pt] (.Tuple [a, b, c] k2 p2) env = pure (some [x, y, z]) := by
  have ex : env.kindOf x = some .local := by unfold Env.kindOf; rw [hs]; exact of_decide_eq_true hx
  have ey : env.kindOf y = some .local := by unfold Env.kindOf; rw [hs]; exact of_decide_eq_true hy
  have ez : env.kindOf z = some .local := by unfold Env.kindOf; rw [hs]; exact of_decide_eq_true hz
  have eb : env.blockKind = .function := by unfold Env.blockKind; rw [hk]; rfl
  have n : x ≠ y := of_decide_eq_true hxy
  have n2 : x ≠ z := of_decide_eq_true hxz
  have n3 : y ≠ z := of_decide_eq_true hyz
  have en : [Expr.Name x px, .Name y py, .Name z pz].filterMap (swN env (((List.head? [Expr.Name x px, .Name y py, .Name z pz]).map (·.pos.line)).getD 0)) = [x, y, z] := by
    show [Expr.Name x px, .Name y py, .Name z pz].filterMap (swN env px.line) = [x, y, z]
    have e1 : swN env px.line (.Name x px) = some x := swN_eq ex (by simp)
    have e2 : swN env px.line (.Name y py) = some y := swN_eq ey hl
    have e3 : swN env px.line (.Name z pz) = some z := swN_eq ez hl2
    simp [List.filterMap, e1, e2, e3]
  rw [sw_eq]
  unfold swS
  rw [en, eb, hst, h1, h2]
  have e3 : ([x, y, z] : List Str).eraseDups = [x, y, z] := by simp [List.eraseDups_cons, n, Ne.symm n, n2, Ne.symm n2, n3, Ne.symm n3]
  rw [e3]
  rfl
def RcO (S : Sc) (cs : CEs) (es : List Expr) : Prop := ∀ (X : Cx) (G : Txt) (C : Ctx) (pn : List (Addr × Obj)) (W : WX) (k : Nat), Rdy X G C S pn W k → DOs X G pn W es (evo C cs)
theorem o_nil : RcO S .nil [] := fun X G C pn W k r => dos_nil
theorem o_cons {e : Expr} {es : List Expr} {c : CE} {cs : CEs} (hs : (!star e) = true) (h1 : RcE S c e) (h2 : RcO S cs es) : RcO S (.cons (.ex c) cs) (e :: es) := fun X G C pn W k r => dos_cons (h1 X G C pn W k r) (h2 X G C pn W k r) (star_each (by simpa using hs))
def cO (S : Sc) : (cs : CEs) → (es : List Expr) → Ok (RcO S cs es)
  | .nil, es => match es with
    | [] => yes o_nil
    | _ => none
  | .cons (.ex c) cs, es => match es with
    | e :: es => chk (!star e) fun hs => (cE S c e).v.by fun h1 => (cO S cs es).by fun h2 => yes (o_cons hs h1 h2)
    | _ => none
  | _, _ => none
theorem locN {X : Cx} {G : Txt} {C : Ctx} {pn : List (Addr × Obj)} {W : WX} {k : Nat} (r : Rdy X G C S pn W k) {i : Nat} {x : Str} (h : decide (S.N[i]? = some x) = true) : X.N[i]? = some x := by rw [r.N]; exact of_decide_eq_true h
theorem loc1_ok {X : Cx} {G : Txt} {C : Ctx} {pn : List (Addr × Obj)} {W : WX} {k : Nat} (r : Rdy X G C S pn W k) {x : Str} (h : loc1 S x = true) : X.env.scope.names.lookup x = some .local := by rw [r.sc]; exact of_decide_eq_true h
theorem z_par2 {i j : Nat} {x y : Str} {px py pt p2 pos : Pos} {k1 k2 : Nat} {a b : Expr} {cs : CEs} (hc : S.calm = true) (hi : decide (S.N[i]? = some x) = true) (hj : decide (S.N[j]? = some y) = true) (hij : decide (i ≠ j) = true) (hni : nix i fx = true) (hnj : nix j fx = true)
    (hx : loc1 S x = true) (hy : loc1 S y = true) (hl : (py.line == px.line) = true) (hxy : decide (x ≠ y) = true) (hst : ([a, b].any star) = false) (h1 : ([a, b].all (foldedForSure 8)) = false) (h2 : ([a, b].all (constantsAlone 8)) = false) (h : RcO S cs [a, b]) :
    RcS S fx (.par [i, j] cs) (.Assign [.Tuple [.Name x px, .Name y py] k1 pt] (.Tuple [a, b] k2 p2) pos) := fun X G C pn W k N r hN =>
  s_par (r.r.calm hc) r.r.nod (locN r.r hi) (locN r.r hj) (of_decide_eq_true hij) (loc1_ok r.r hx) (loc1_ok r.r hy) (by
    rw [hN]
    intro n z
    rcases List.mem_cons.mp z with z | z
    · rw [z]; exact nix_no hni
    · rcases List.mem_cons.mp z with z | z
      · rw [z]; exact nix_no hnj
      · cases z) (h X G C pn W k r.r) (sw_two r.r.kind r.r.sc hx hy hl hxy hst h1 h2)
theorem z_par3 {i j l : Nat} {x y z : Str} {px py pz pt p2 pos : Pos} {k1 k2 : Nat} {a b c : Expr} {cs : CEs} (hc : S.calm = true) (hi : decide (S.N[i]? = some x) = true) (hj : decide (S.N[j]? = some y) = true) (hk : decide (S.N[l]? = some z) = true) (hij : decide (i ≠ j) = true) (hil : decide (i ≠ l) = true) (hjl : decide (j ≠ l) = true) (hni : nix i fx = true) (hnj : nix j fx = true) (hnl : nix l fx = true)
    (hx : loc1 S x = true) (hy : loc1 S y = true) (hz : loc1 S z = true) (hl : (py.line == px.line) = true) (hl2 : (pz.line == px.line) = true) (hxy : decide (x ≠ y) = true) (hxz : decide (x ≠ z) = true) (hyz : decide (y ≠ z) = true) (hst : ([a, b, c].any star) = false) (h1 : ([a, b, c].all (foldedForSure 8)) = false) (h2 : ([a, b, c].all (constantsAlone 8)) = false) (h : RcO S cs [a, b, c]) :
    RcS S fx (.par [i, j, l] cs) (.Assign [.Tuple [.Name x px, .Name y py, .Name z pz] k1 pt] (.Tuple [a, b, c] k2 p2) pos) := fun X G C pn W k N r hN =>
  s_par3 (r.r.calm hc) r.r.nod (locN r.r hi) (locN r.r hj) (locN r.r hk) (of_decide_eq_true hij) (of_decide_eq_true hil) (of_decide_eq_true hjl) (loc1_ok r.r hx) (loc1_ok r.r hy) (loc1_ok r.r hz) (by
    rw [hN]
    intro n z
    rcases List.mem_cons.mp z with z | z
    · rw [z]; exact nix_no hni
    · rcases List.mem_cons.mp z with z | z
      · rw [z]; exact nix_no hnj
      · rcases List.mem_cons.mp z with z | z
        · rw [z]; exact nix_no hnl
        · cases z) (h X G C pn W k r.r) (sw_three r.r.kind r.r.sc hx hy hz hl hl2 hxy hxz hyz hst h1 h2)
/-- a constants' tuple, or one of more than three -/
theorem z_asgT {ts vs : List Expr} {k1 k2 : Nat} {p p2 pos : Pos} {t : Tg} {c : CE} (h : (!(ts.length == 2 || ts.length == 3) || vs.length != ts.length || vs.all (foldedForSure 8)) = true) (hg : RcG S fx t (.Tuple ts k1 p)) (he : RcE S c (.Tuple vs k2 p2)) : RcS S fx (.asg t c) (.Assign [.Tuple ts k1 p] (.Tuple vs k2 p2) pos) := fun X G C pn W k N r hN =>
  s_asg (he X G C pn W k r.r) (hg X G C pn W k N r hN) rfl (sw_none h) (by rfl)
def isNm : Expr → Bool
  | .Name .. => true
  | _ => false
theorem z_asg' {tg e : Expr} {t : Tg} {c : CE} {pos : Pos} (h1 : noComp e = true) (h2 : (noTup e || isNm tg) = true) (h3 : star tg = false) (hg : RcG S fx t tg) (he : RcE S c e) : RcS S fx (.asg t c) (.Assign [tg] e pos) :=
  z_asg h1 (by cases tg <;> first | exact h2 | skip) h3 hg he
end
def augOf (p : Pr) (op : Operator) : Bool := decide (augOp p = some op) && decide (p = .add ∨ p = .sub ∨ p = .mul)
theorem augOf_ok {p : Pr} {op : Operator} (h : augOf p op = true) : decide (augOp p = some op) = true ∧ decide (p = .add ∨ p = .sub ∨ p = .mul) = true := by
  unfold augOf at h
  rw [Bool.and_eq_true] at h
  exact h
mutual
def cS (S : Sc) (fx : List Nat) : (c : CS) → (s : Stmt) → Ok (RcS S fx c s)
  | .pass, s => match s with
    | .Pass p => yes z_pass
    | _ => none
  | .brk, s => match s with
    | .Break p => yes z_brk
    | _ => none
  | .cnt, s => match s with
    | .Continue p => yes z_cnt
    | _ => none
  | .retN, s => match s with
    | .Return none p => yes z_retN
    | _ => none
  | .ret c, s => match s with
    | .Return (some e) p => (cE S c e).v.by fun h => yes (z_ret h)
    | _ => none
  | .retS i, s => match s with
    | .Return (some (.Name x p)) p2 => chk (visB S i x) fun h => yes (z_retS h)
    | _ => none
  | .drop c, s => match s with
    | .Expr e p => chk (noComp e) fun h1 => (cE S c e).v.by fun h => yes (z_drop h1 h)
    | _ => none
  | .asg t c, s => match s with
    | .Assign [.Tuple ts k1 p] (.Tuple vs k2 p2) pos => chk (!(ts.length == 2 || ts.length == 3) || vs.length != ts.length || vs.all (foldedForSure 8)) fun h => (cG S fx t (.Tuple ts k1 p)).by fun hg => (cE S c (.Tuple vs k2 p2)).v.by fun he => yes (z_asgT h hg he)
    | .Assign [tg] e pos => chk (noComp e) fun h1 => chk (noTup e || isNm tg) fun h2 => chk (!star tg) fun h3 => (cG S fx t tg).by fun hg => (cE S c e).v.by fun he => yes (z_asg' h1 h2 (by simpa using h3) hg he)
    | _ => none
  | .par is cs, s => match is, s with
    | [i, j], .Assign [.Tuple [.Name x px, .Name y py] k1 pt] (.Tuple [a, b] k2 p2) pos => chk S.calm fun hc => chk (decide (S.N[i]? = some x)) fun hi => chk (decide (S.N[j]? = some y)) fun hj => chk (decide (i ≠ j)) fun hij => chk (nix i fx) fun hni => chk (nix j fx) fun hnj => chk (loc1 S x) fun hx => chk (loc1 S y) fun hy => chk (py.line == px.line) fun hl => chk (decide (x ≠ y)) fun hxy =>
        chk (!([a, b].any star)) fun hst => chk (!([a, b].all (foldedForSure 8))) fun h1 => chk (!([a, b].all (constantsAlone 8))) fun h2 => (cO S cs [a, b]).by fun h => yes (z_par2 hc hi hj hij hni hnj hx hy hl hxy (not_f hst) (not_f h1) (not_f h2) h)
    | [i, j, l], .Assign [.Tuple [.Name x px, .Name y py, .Name z pz] k1 pt] (.Tuple [a, b, c] k2 p2) pos => chk S.calm fun hc => chk (decide (S.N[i]? = some x)) fun hi => chk (decide (S.N[j]? = some y)) fun hj => chk (decide (S.N[l]? = some z)) fun hk => chk (decide (i ≠ j)) fun hij => chk (decide (i ≠ l)) fun hil => chk (decide (j ≠ l)) fun hjl => chk (nix i fx) fun hni => chk (nix j fx) fun hnj => chk (nix l fx) fun hnl =>
        chk (loc1 S x) fun hx => chk (loc1 S y) fun hy => chk (loc1 S z) fun hz => chk (py.line == px.line) fun hl => chk (pz.line == px.line) fun hl2 => chk (decide (x ≠ y)) fun hxy => chk (decide (x ≠ z)) fun hxz => chk (decide (y ≠ z)) fun hyz =>
        chk (!([a, b, c].any star)) fun hst => chk (!([a, b, c].all (foldedForSure 8))) fun h1 => chk (!([a, b, c].all (constantsAlone 8))) fun h2 => (cO S cs [a, b, c]).by fun h => yes (z_par3 hc hi hj hk hij hil hjl hni hnj hnl hx hy hz hl hl2 hxy hxz hyz (not_f hst) (not_f h1) (not_f h2) h)
    | _, _ => none
  | .mov i j, s => match s with
    | .Assign [.Name x p'] (.Name y p) pos => chk (locB S i x) fun h => chk (nix i fx) fun hn => chk (visB S j y) fun hv => yes (z_mov h hn hv)
    | _ => none
  | .aug i p c, s => match s with
    | .AugAssign (.Name x p') op e pos => chk (augOf p op) fun hp => chk (locB S i x) fun h => chk (nix i fx) fun hn => (cE S c e).v.by fun he => yes (z_aug (augOf_ok hp).1 (augOf_ok hp).2 h hn he)
    | _ => none
  | .setI i kc c, s => match s with
    | .Assign [.Subscript (.Name x p1) ke p2] e pos => chk (noComp e) fun h1 => chk (noSlc ke) fun hs => chk (visB S i x) fun hv => (cE S kc ke).v.by fun hk => (cE S c e).v.by fun he => yes (z_setI h1 hs hv hk he)
    | _ => none
  | .setA f c, s => match s with
    | .Assign [.Attribute (.Name x p1) f' p2] e pos => if hf : f' = f then (chk (noComp e) fun h1 => chk (visB S 0 x) fun hv => (cE S c e).v.by fun he => yes (hf ▸ z_setA h1 hv he)) else none
    | _ => none
  | .app i c, s => match s with
    | .Expr (.Call (.Attribute (.Name x p1) m ap) [e] [] cp) pos => if hm : m = "append" then (chk (visB S i x) fun hv => chk (!star e) fun hs => chk (ap.endLine == cp.line) fun hl => (cAs S (.cons (.ex c) .nil) [e]).by fun he => yes (z_app hm hv (by simpa using hs) hl he)) else none
    | _ => none
  | .iff t x y, s => match s with
    | .If c a b pos => (cE S t c).t.by fun h0 => (cSs S fx x a).by fun h1 => (cSs S fx y b).by fun h2 => yes (z_iff h0 h1 h2)
    | _ => none
  | .whl t x, s => match s with
    | .While c a [] pos => chk S.calm fun hc => (cE S t c).t.by fun h0 => (cSs S fx x a).by fun h1 => yes (z_whl hc h0 h1)
    | _ => none
  | .for t w cs b, s => match s with
    | .For tg iter body [] pos => chk S.calm fun hc => chk (noSet iter) fun hn => (cI S w cs tg iter).by fun hi => (cG S (borsC cs ++ fx) t tg).by fun hg => (cSs S (borsC cs ++ fx) b body).by fun hb => yes (z_for hc hn hi hg hb)
    | _ => none
  | .raise K cs, s => match s with
    | .Raise (some (.Call (.Name x p) [] [] p2)) none pos => match cs with
      | .nil => chk S.calm fun hc => chk (globB S x (.exc K true)) fun hg => yes (z_raise0 hc hg)
      | _ => none
    | .Raise (some (.Call (.Name x p) (e :: es) [] p2)) none pos => chk S.calm fun hc => chk (globB S x (.exc K false)) fun hg => chk (!star e) fun hs => chk (es.all fun e => !star e) fun hst => (cAs S cs (e :: es)).by fun ha => yes (z_raise hc hg (by simpa using hs) hst ha)
    | _ => none
  | .tryE b K i h, s => match s with
    | .Try body [.ExceptHandler (some (.Name x np)) (some n) (b0 :: suite) pos'] [] [] pos => match S.glob.lookup x with
      | some (.exc K' bb) => chk S.calm fun hc => chk (globB S x (.exc K bb)) fun hg => chk (decide (S.N[i]? = some n)) fun hi => chk (decide (S.sc.lookup n = some .local)) fun hl => chk (nix i fx) fun hn => (cSs S fx b body).by fun hb => (cSs S.hots fx h (b0 :: suite)).by fun hs => yes (z_try hc hg hi hl hn hb hs)
      | _ => none
    | _ => none
  | .tryO b K h, s => match s with
    | .Try body [.ExceptHandler (some (.Name x np)) none (b0 :: suite) pos'] [] [] pos => match S.glob.lookup x with
      | some (.exc K' bb) => chk S.calm fun hc => chk (globB S x (.exc K bb)) fun hg => (cSs S fx b body).by fun hb => (cSs S.hots fx h (b0 :: suite)).by fun hs => yes (z_try0 hc hg hb hs)
      | _ => none
    | _ => none
  | .ext i c, s => none
def cSs (S : Sc) (fx : List Nat) : (c : CSs) → (s : List Stmt) → Ok (RcSs S fx c s)
  | .nil, s => match s with
    | [] => yes z_nil
    | _ => none
  | .cons c cs, s => match s with
    | s :: ss => (cS S fx c s).by fun h1 => (cSs S fx cs ss).by fun h2 => yes (z_cons h1 h2)
    | _ => none
  | .frz i cs, s => chk (nix i fx) fun hn => (cSs S fx cs s).by fun h2 => yes (z_frz hn h2)
end
end PI
/-! PJ, part i: arguments are bound. -/
namespace PI
open PySem PySem.Spec L2 PyProof.Rows
theorem zip_lookup {β : Type} : ∀ {ps : List Str} {us : List β} {x : Str}, us.length = ps.length → x ∈ ps → ∃ u, (ps.zip us).lookup x = some u
  | p :: ps, u :: us, x, h, hx => by
    rw [List.zip_cons_cons, List.lookup_cons]
    cases e : x == p with
    | true => exact ⟨u, rfl⟩
    | false =>
      rcases List.mem_cons.mp hx with z | z
      · rw [z] at e
        simp at e
      · exact zip_lookup (by simpa using h) z
  | [], _, _, _, hx => by cases hx
  | _ :: _, [], _, h, _ => by cases h
theorem zip_filterMap {β : Type} : ∀ {ps : List Str} {us : List β} (all : List (Str × β)), ps.Nodup → us.length = ps.length → (∀ x u, (ps.zip us).lookup x = some u → all.lookup x = some u) → ps.filterMap (fun n => (all.lookup n).map (fun v => (n, v))) = ps.zip us
  | [], us, all, _, _, _ => by simp
  | p :: ps, [], all, _, h, _ => by cases h
  | p :: ps, u :: us, all, nd, h, ha => by
    have e : all.lookup p = some u := ha p u (by simp)
    have nd' := List.nodup_cons.mp nd
    have ih := zip_filterMap (ps := ps) (us := us) all nd'.2 (by simpa using h) fun x v hx => ha x v (by
      rw [List.zip_cons_cons, List.lookup_cons]
      cases q : x == p with
      | false => exact hx
      | true =>
        have e2 : x = p := by simpa using q
        have := PySem.mem_of_lookup hx
        exact absurd (List.of_mem_zip this).1 (by rw [e2]; exact nd'.1))
    rw [List.filterMap_cons, e, Option.map_some, ih, List.zip_cons_cons]
def plainArgs (a : Arguments) (ps : List Str) : Bool := a.posonlyargs.isEmpty && a.vararg.isNone && a.kwonlyargs.isEmpty && a.kwarg.isNone && decide (a.args.map (·.arg) = ps) && decide ps.Nodup
theorem binds_plain {K : PySem.W.Frag} {name qual : Str} {params : Arguments} {body : List Stmt} {scope : Scope} {kV doc pm cdv ct : Value} {an : Option Addr} {ps : List Str} (h : plainArgs params ps = true) : Binds K (PySem.W.fnOf name qual params body scope .none kV doc pm an cdv ct) ps [] := by
  unfold plainArgs at h
  simp only [Bool.and_eq_true, decide_eq_true_eq, List.isEmpty_iff, Option.isNone_iff_eq_none] at h
  obtain ⟨⟨⟨⟨⟨h1, h2⟩, h3⟩, h4⟩, h5⟩, h6⟩ := h
  obtain ⟨po, ar, va, ko, kd, kw, df⟩ := params
  simp only at h1 h2 h3 h4 h5
  subst h1 h2 h3 h4 h5
  refine .all fun us hl => ?_
  have hm : (ar.map (·.arg)).filter (fun n => (((ar.map (·.arg)).zip us).lookup n).isNone) = [] := by
    rw [List.filter_eq_nil_iff]
    intro x hx
    obtain ⟨u, e⟩ := zip_lookup hl hx
    rw [e]
    simp
  have hf := zip_filterMap ((ar.map (·.arg)).zip us) h6 hl fun x u q => q
  unfold bindArgs
  simp only [PySem.W.fnOf, seqItems?]
  generalize ar.map (·.arg) = ps at *
  simp [hm, hf, hl, notAStandIn]
  done
end PI
/-! PJ, part j: a text's defs, level by level. -/
namespace PI
open PySem PySem.Spec L2 PyProof.Rows C8
/-- one def of the text, and its core -/
structure Dn where
  at_ : Str × Option Str
  name : Str
  qual : Str
  params : Arguments
  body : List Stmt
  scope : Scope
  ps : List Str
  N : List Str
  core : Fn
  hot : Bool
def Dn.st (d : Dn) : Bool := scC d.N d.ps d.scope && (plainArgs d.params d.ps && (decide (d.core.ps = d.ps.length) && decide (d.core.n = d.N.length)))
theorem Dn.st_ok {d : Dn} (h : d.st = true) : FnScope d.N d.ps d.scope ∧ plainArgs d.params d.ps = true ∧ d.core.ps = d.ps.length ∧ d.core.n = d.N.length := by
  unfold Dn.st at h
  simp only [Bool.and_eq_true, decide_eq_true_eq] at h
  exact ⟨fnScope_by h.1, h.2⟩
structure DnAt (K : PySem.W.Frag) (a : Addr) (d : Dn) : Prop where
  ex : ∃ oc od osl kV doc pm an cdv ct, K.lookup a = some ⟨oc, od, .func (PySem.W.fnOf d.name d.qual d.params d.body d.scope .none kV doc pm an cdv ct), osl⟩ ∧ PySem.W.codeIn K cdv d.qual = true
  kp : PySem.W.keepIn K (.ref a) = true
structure Tx where
  fs : List Dn
  cs : List Cls
  glob : List (Str × Gx)
  gv : Nat → Option D
def Tx.hot (t : Tx) (f : Nat) : Bool := match t.fs[f]? with
  | some d => d.hot
  | none => false
def Tx.T (t : Tx) : ClsT := fun i => t.cs[i]?
def Tx.tb (t : Tx) : Tbl := fun f => match t.fs[f]? with
  | some d => some (.fn d.core)
  | none => some (.cls (f - t.fs.length))
def Tx.sc (t : Tx) (d : Dn) : Sc := ⟨d.N, d.scope.names, true, t.glob, t.hot, fun _ => true⟩
def Tx.chk (t : Tx) (d : Dn) : Bool := d.st && ((cSs (t.sc d) d.core.io d.core.body d.body).isSome && (!d.hot || (cSs (t.sc d).hots d.core.io d.core.body d.body).isSome))
def GlobAt (mg : Str → Option Value) (G : Txt) (gv : Nat → Option D) (x : Str) : Gx → Prop
  | .blt => mg x = none
  | .gcd => mg x = some (.builtin "math.gcd")
  | .fn f => ∃ a, G.fa f = some a ∧ mg x = some (.ref a)
  | .val k => ∃ d v u, gv k = some d ∧ mg x = some u ∧ RelV v u ∧ ∀ (pn : List (Addr × Obj)) (O : Addr → Prop) (H : Hp), RelD G pn O H d v
  | .cls K f => mg x = some (.ref (G.ca K)) ∧ G.fa f = some (G.ca K)
  | .exc K b => mg x = some (.ref (G.ca K)) ∧ ∃ c, G.T K = some c ∧ c.exc = true ∧ c.fields.isEmpty = b
structure TxOk (P : Program) (w : World) (K : PySem.W.Frag) (mg : Str → Option Value) (base : Heap) (G : Txt) (t : Tx) : Prop where
  GK : K = G.K
  T : t.T = G.T
  fn : ∀ f d a, t.fs[f]? = some d → G.fa f = some a → DnAt K a d
  cl : ∀ f a, t.fs[f]? = none → G.fa f = some a → PySem.W.keepIn K (.ref a) = true ∧ ∃ c d fI, t.T (f - t.fs.length) = some c ∧ a = G.ca (f - t.fs.length) ∧ t.fs[c.init]? = some d ∧ G.fa c.init = some fI ∧ L2.Mk K (G.ca (f - t.fs.length)) fI
  glob : ∀ x g, t.glob.lookup x = some g → GlobAt mg G t.gv x g
  F : KF K G
  M : MethF K G
  exn : ∀ i c, G.T i = some c → c.exc = true → ExnOk P w K mg base (G.ca i) c
  exm : ∀ i c j d, G.T i = some c → G.T j = some d → d.exc = true → PySem.W.exmOne K (.ref (G.ca i)) (.ref (G.ca j)) = some (isSub G.T i j)
  sm : ∃ o, K.lookup sysModules = some o
section
variable {P : Program} {w : World} {K : PySem.W.Frag} {mg : Str → Option Value} {base : Heap} {G : Txt} {t : Tx}
def CallsN (P : Program) (w : World) (K : PySem.W.Frag) (mg : Str → Option Value) (base : Heap) (G : Txt) (hot : Nat → Bool) (F : Nat → List D → FOut) (k : Nat) : Prop := ∀ f a, G.fa f = some a → PySem.W.keepIn K (.ref a) = true ∧
  ∀ (X : Cx) (pn : List (Addr × Obj)) (W : WX) (b : Bool), X.prog = P → X.w = w → X.K = K → X.mg = mg → X.base = base → X.A.guards = some [] → Mode X k b pn → Takes X W → (b = true ∨ hot f = true) → CallI X G pn W a (F f)
def FnsN (P : Program) (w : World) (K : PySem.W.Frag) (mg : Str → Option Value) (base : Heap) (G : Txt) (t : Tx) (F : Nat → List D → FOut) (k : Nat) : Prop := ∀ f d a, t.fs[f]? = some d → G.fa f = some a → ∃ fd, FnI P w K mg base G d.hot k a fd d.ps (F f) ∧ Binds K fd d.ps []
theorem stuck_call {X : Cx} {pn : List (Addr × Obj)} {W : WX} {a : Addr} {F : List D → FOut} (h : ∀ ds, F ds = .stuck) : CallI X G pn W a F := fun pins s σ H Q us vs I r ⟨O, ds, S, hp⟩ => by
  rw [h ds] at hp
  exact (show False from hp).elim
theorem stuck_fn {hot : Bool} {k : Nat} {a : Addr} {fd : FuncData} {ps : List Str} {F : List D → FOut} (h : ∀ ds, F ds = .stuck) : FnI P w K mg base G hot k a fd ps F :=
  ⟨fun ds z => absurd (h ds) z, fun A outer s H args us vs Q E _ _ _ _ _ ⟨O, ds, S, hp⟩ => (by
    rw [h ds] at hp
    exact (show False from hp).elim), fun _ A outer s H args us vs Q E p _ _ _ _ _ _ _ ⟨O, ds, S, hp⟩ => (by
    rw [h ds] at hp
    exact (show False from hp).elim)⟩
theorem calls_fn {hot : Bool} {k : Nat} {a : Addr} {fd : FuncData} {ps : List Str} {F : List D → FOut} (Fi : FnI P w K mg base G hot k a fd ps F) (hb : Binds K fd ps []) {X : Cx} {pn : List (Addr × Obj)} {W : WX} {b : Bool} (e1 : X.prog = P) (e2 : X.w = w) (e3 : X.K = K) (e4 : X.mg = mg) (e5 : X.base = base)
    (hgd : X.A.guards = some []) (md : Mode X k b pn) (tk : Takes X W) (hh : b = true ∨ hot = true) : CallI X G pn W a F := by
  subst e1 e2 e3 e4 e5
  refine CallI.of hgd md tk (fun z => hh.elim (fun z2 => ?_) id) hb Fi
  rw [z] at z2
  cases z2
theorem calls_make {hot : Bool} {k i : Nat} {c : Cls} {fI : Addr} {fd : FuncData} {ps : List Str} {init : List D → FOut} (hT : G.T i = some c) (M : L2.Mk K (G.ca i) fI) (Fi : FnI P w K mg base G hot k fI fd ps init) (hb : Binds K fd ps []) {X : Cx} {pn : List (Addr × Obj)} {W : WX} (e1 : X.prog = P) (e2 : X.w = w) (e3 : X.K = K) (e4 : X.mg = mg) (e5 : X.base = base)
    (hgd : X.A.guards = some []) (md : Mode X (k + 1) true pn) (tk : Takes X W) : CallI X G pn W (G.ca i) (makeF i init) := by
  subst e1 e2 e3 e4 e5
  obtain ⟨b1, b2, b3⟩ := md.room rfl
  subst b2
  exact CallI.make hgd b1 tk hT M hb Fi

theorem rdyS_of {k : Nat} {d : Dn} {a : Addr} {C : Ctx} (ok : TxOk P w K mg base G t) (hst : d.st = true) (eT : C.T = G.T) (eg : C.gv = t.gv) (h2 : 2 ≤ k) (hc : CallsN P w K mg base G t.hot C.F k) {cdv : Value} {A : Around} {outer : List PySem.Env} {s : Shared} {H : Hp} {E : XK}
    (hr : Room k (A.deeper (envOfC d.qual d.scope s.heap.objs.size a cdv))) (hgd : A.guards = some []) : RdyS (cxOf (L2.CX P w) P w K mg base d.N d.qual d.scope a cdv A outer s H E) G C (t.sc d) [] (fun c dd _ H' => E c dd H') k := by
  have sc := (Dn.st_ok hst).1
  refine ⟨⟨⟨ok.GK, ?_, guards_deeper hgd, ok.sm⟩, sc.nd, rfl, rfl, fun x _ => rfl, sc.kind, .calm rfl hr, takes_of rfl rfl rfl rfl, eT, ok.F, ok.M, h2, ok.exn, ok.exm, fun x g h => ?_, fun f a e => ⟨(hc f a e).1, fun X' pn' W' b L hg md tk hh => (hc f a e).2 X' pn' W' b L.p L.w L.K L.m L.b hg md tk hh⟩⟩, fun _ => passes_of rfl, rfl, rfl⟩
  · have := hr.un
    show (A.deeper (envOfC d.qual d.scope s.heap.objs.size a cdv)).units + 65 < cLine
    omega
  · have z := ok.glob x g h
    cases g with
    | val i =>
      obtain ⟨d, v, u, h1, h2⟩ := z
      exact ⟨d, v, u, by rw [eg]; exact h1, h2⟩
    | _ => exact z
theorem rdyH_of {k : Nat} {d : Dn} {a : Addr} {C : Ctx} (ok : TxOk P w K mg base G t) (hst : d.st = true) (eT : C.T = G.T) (eg : C.gv = t.gv) (h2 : 2 ≤ k) (hc : CallsN P w K mg base G t.hot C.F k) {cdv : Value} {A : Around} {outer : List PySem.Env} {s : Shared} {H : Hp} {E : XK} {p : Addr × Obj}
    (hr : L2H.RoomH k (A.deeper (envOfC d.qual d.scope s.heap.objs.size a cdv))) (hgd : A.guards = some []) (pf : PinF p) : RdyS (L2H.cxH (L2.CX P w) P w K mg base d.N d.qual d.scope a cdv A outer s H E p) G C (t.sc d).hots [p] (fun c dd _ H' => E c dd H') k := by
  have sc := (Dn.st_ok hst).1
  refine ⟨⟨⟨ok.GK, ?_, guards_deeper hgd, ok.sm⟩, sc.nd, rfl, rfl, fun x _ => rfl, sc.kind, .hot p hr pf List.mem_cons_self, takes_of rfl rfl rfl rfl, eT, ok.F, ok.M, h2, ok.exn, ok.exm, fun x g h => ?_, fun f a e => ⟨(hc f a e).1, fun X' pn' W' b L hg md tk hh => (hc f a e).2 X' pn' W' b L.p L.w L.K L.m L.b hg md tk hh⟩⟩, fun z => (by cases z), rfl, rfl⟩
  · have := hr.un
    show (A.deeper (envOfC d.qual d.scope s.heap.objs.size a cdv)).units + 65 < cLine
    omega
  · have z := ok.glob x g h
    cases g with
    | val i =>
      obtain ⟨d, v, u, h1, h2⟩ := z
      exact ⟨d, v, u, by rw [eg]; exact h1, h2⟩
    | _ => exact z
theorem Ok.get {p : Prop} {o : Ok p} (h : o.isSome = true) : p := match o, h with
  | some x, _ => x.down
/-- a def one level up -/
theorem fns_up {k : Nat} {F : Nat → List D → FOut} {L : Nat → FOut → FOut} {cb : FOut} (ok : TxOk P w K mg base G t) (chk : ∀ d ∈ t.fs, t.chk d = true) (h2 : 2 ≤ k) (hc : CallsN P w K mg base G t.hot F k) {f : Nat} {d : Dn} {a : Addr} (hf : t.fs[f]? = some d) (ha : G.fa f = some a) :
    ∃ fd, FnI P w K mg base G d.hot (k + 1) a fd d.ps (bodyF ⟨G.T, t.gv, F, L, cb⟩ d.core) ∧ Binds K fd d.ps [] := by
  have ck := chk d (List.mem_of_getElem? hf)
  unfold Tx.chk at ck
  simp only [Bool.and_eq_true] at ck
  obtain ⟨hst, c1, c2⟩ := ck
  obtain ⟨sc, pl, e1, e2⟩ := Dn.st_ok hst
  obtain ⟨⟨oc, od, osl, kV, doc, pm, an, cdv, ct, lk, hcd⟩, kp⟩ := ok.fn f d a hf ha
  refine ⟨_, fni_of lk hcd sc e1 e2 (fun A outer s H E N hr hgd hN => ?_) (fun hh A outer s H E p N hr hgd pf hN => ?_), binds_plain pl⟩
  · exact (Ok.get c1 : RcSs (t.sc d) d.core.io d.core.body d.body) _ G ⟨G.T, t.gv, F, L, cb⟩ [] _ k N (rdyS_of ok hst rfl rfl h2 hc hr hgd) hN
  · rw [hh] at c2
    exact (Ok.get (show (cSs (t.sc d).hots d.core.io d.core.body d.body).isSome = true from by simpa using c2) : RcSs (t.sc d).hots d.core.io d.core.body d.body) _ G ⟨G.T, t.gv, F, L, cb⟩ [p] _ k N (rdyH_of ok hst rfl rfl h2 hc hr hgd pf) hN
theorem calls_up {k : Nat} {F F' : Nat → List D → FOut} (ok : TxOk P w K mg base G t) (h1 : FnsN P w K mg base G t F' (k + 1)) (h0 : FnsN P w K mg base G t F k) (hm : ∀ f c, t.fs[f]? = none → G.T (f - t.fs.length) = some c → F' f = makeF (f - t.fs.length) (F c.init)) : CallsN P w K mg base G t.hot F' (k + 1) := by
  intro f a ha
  cases hf : t.fs[f]? with
  | some d =>
    obtain ⟨fd, Fi, hb⟩ := h1 f d a hf ha
    refine ⟨(ok.fn f d a hf ha).kp, fun X pn W b e1 e2 e3 e4 e5 hgd md tk hh => calls_fn Fi hb e1 e2 e3 e4 e5 hgd md tk (hh.imp id fun z => ?_)⟩
    unfold Tx.hot at z
    rw [hf] at z
    exact z
  | none =>
    obtain ⟨kp, c, d, fI, q1, q2, q3, q4, q5⟩ := ok.cl f a hf ha
    rw [ok.T] at q1
    refine ⟨kp, fun X pn W b e1 e2 e3 e4 e5 hgd md tk hh => ?_⟩
    have eb : b = true := hh.elim id fun z => by
      unfold Tx.hot at z
      rw [hf] at z
      cases z
    subst eb
    obtain ⟨fd, Fi, hb⟩ := h0 c.init d fI q3 q4
    rw [hm f c hf q1, q2]
    exact calls_make q1 q5 Fi hb e1 e2 e3 e4 e5 hgd md tk
theorem calls_zero {k : Nat} (ok : TxOk P w K mg base G t) {F : Nat → List D → FOut} (h : ∀ f ds, F f ds = .stuck) : CallsN P w K mg base G t.hot F k := by
  intro f a ha
  refine ⟨?_, fun X pn W b _ _ _ _ _ _ _ _ _ => stuck_call (h f)⟩
  cases hf : t.fs[f]? with
  | some d => exact (ok.fn f d a hf ha).kp
  | none => exact (ok.cl f a hf ha).1
theorem level (ok : TxOk P w K mg base G t) (chk : ∀ d ∈ t.fs, t.chk d = true) : ∀ n, FnsN P w K mg base G t (callF G.T t.gv t.tb n) (n + 2) ∧ CallsN P w K mg base G t.hot (callF G.T t.gv t.tb n) (n + 2)
  | 0 => ⟨fun f d a hf ha => by
      obtain ⟨⟨oc, od, osl, kV, doc, pm, an, cdv, ct, lk, hcd⟩, kp⟩ := ok.fn f d a hf ha
      have ck := chk d (List.mem_of_getElem? hf)
      unfold Tx.chk at ck
      simp only [Bool.and_eq_true] at ck
      exact ⟨_, stuck_fn fun ds => rfl, binds_plain (name := d.name) (qual := d.qual) (body := d.body) (scope := d.scope) (kV := kV) (doc := doc) (pm := pm) (cdv := cdv) (ct := ct) (an := an) (Dn.st_ok ck.1).2.1⟩, calls_zero ok fun f ds => rfl⟩
  | n + 1 => by
    obtain ⟨i1, i2⟩ := level ok chk n
    have j1 : FnsN P w K mg base G t (callF G.T t.gv t.tb (n + 1)) (n + 1 + 2) := fun f d a hf ha => by
      have et : t.tb f = some (.fn d.core) := by
        unfold Tx.tb
        rw [hf]
      have e : callF G.T t.gv t.tb (n + 1) f = bodyF ⟨G.T, t.gv, callF G.T t.gv t.tb n, fun g c => match t.tb g with
        | some (.fn d) => finF [] (runs ⟨G.T, t.gv, callF G.T t.gv t.tb n, fun _ _ => .stuck, c⟩ d.body (List.replicate d.n none))
        | _ => .stuck, .stuck⟩ d.core := by
        funext ds
        rw [callF]
        simp only [et] <;> rfl
      rw [e]
      exact fns_up ok chk (by omega) i2 hf ha
    refine ⟨j1, calls_up ok j1 i1 fun f c hf hT => ?_⟩
    have et : t.tb f = some (.cls (f - t.fs.length)) := by
      unfold Tx.tb
      rw [hf]
    funext ds
    rw [callF]
    simp only [et, hT]
    rfl
end
end PI
/-! PJ, part k: __init__ of an exception's class. -/
namespace PI
open PySem PySem.Spec L2 PyProof.Rows C8
/-- self.f = f, for each field -/
def storesB (self : Str) : List Str → List Stmt → Bool
  | [], [] => true
  | f :: fs, .Assign [.Attribute (.Name x _) g _] (.Name y _) _ :: r => decide (x = self) && (decide (g = f) && (decide (y = f) && storesB self fs r))
  | _, _ => false
def remT (K : PySem.W.Frag) : List Str → Nat → TS
  | [], _ => fun D σ H => D.nx σ H
  | f :: r, j => tSeq (tOst K f (tVar 0) (tVar j)) (remT K r (j + 1))
section
variable {X : Cx} {self : Str}
theorem stores_pss (hself : X.N[0]? = some self ∧ Vis X.env.scope self ∧ (!dbg self) = true) : ∀ {fs : List Str} {body : List Stmt} {j : Nat}, storesB self fs body = true → (∀ i f, fs[i]? = some f → X.N[j + i]? = some f ∧ Vis X.env.scope f ∧ (!dbg f) = true) → PSs X body (remT X.K fs j)
  | [], [], j, _, _ => pss_nil
  | f :: fs, s :: r, j, h, hn => by
    unfold storesB at h
    split at h
    · rename_i e _
      cases e
    · rename_i f' fs' x p1 g p2 y p3 p4 r' e1 e2
      cases e1
      cases e2
      simp only [Bool.and_eq_true, decide_eq_true_eq] at h
      obtain ⟨hx, hg, hy, h⟩ := h
      subst x
      subst g
      subst y
      obtain ⟨n1, n2, n3⟩ := hn 0 _ rfl
      obtain ⟨d1, d2, _⟩ := dbg_no hself.2.2
      obtain ⟨d3, d4, _⟩ := dbg_no n3
      refine pss_cons (ps_ost (pe_var hself.1 hself.2.1 d1 d2) (pe_var n1 n2 d3 d4)) (stores_pss hself h fun i f e => ?_)
      have := hn (i + 1) f (by simpa using e)
      rw [show j + 1 + i = j + (i + 1) by omega]
      exact this
    · cases h
  | [], _ :: _, j, h, _ => by cases h
  | _ :: _, [], j, h, _ => by cases h
theorem zip_take_lookup {ws : List V} : ∀ {fields : List Str} {n : Nat} {f g : Str} {w : V}, fields.Nodup → fields[n]? = some f → ws[n]? = some w → ws.length = fields.length → ((fields.take (n + 1)).zip ws).lookup g = if g = f then some w else ((fields.take n).zip ws).lookup g := by
  intro fields
  induction fields generalizing ws with
  | nil => intro n f g w _ h; simp at h
  | cons x xs ih =>
    intro n f g w nd h1 h2 hl
    cases ws with
    | nil => simp at h2
    | cons u us =>
      have nd' := List.nodup_cons.mp nd
      cases n with
      | zero =>
        simp only [List.getElem?_cons_zero, Option.some.injEq] at h1 h2
        subst h1 h2
        by_cases e : g = x
        · subst e
          simp [List.lookup]
        · have e' : (g == x) = false := by simpa using e
          simp [List.lookup, e, e']
      | succ n =>
        simp only [List.getElem?_cons_succ] at h1 h2
        have ih' := ih (ws := us) (g := g) nd'.2 h1 h2 (by simpa using hl)
        by_cases e : g = x
        · have nf : g ≠ f := fun z => nd'.1 (by rw [← e, z]; exact List.mem_of_getElem? h1)
          subst e
          simp [List.lookup, nf]
        · have e' : (g == x) = false := by simpa using e
          simp only [List.take_succ_cons, List.zip_cons_cons, List.lookup_cons, e']
          exact ih'
/-- from one field on -/
theorem rem_old {K : PySem.W.Frag} {a C dx : Addr} {ws : List V} {fields : List Str} {D : Ends} {σ : L2.St} {H0 : Hp} (T : OexC K C) (hno : ∀ f ∈ fields, PySem.W.findIn K (.ref C) f = some none) (nd : fields.Nodup) (hl : ws.length = fields.length) (hle : fields.length ≤ 900) (h0 : σ[0]? = some (some (.ref a))) (hs : ∀ i w, ws[i]? = some w → σ[i + 1]? = some (some w)) (hdx : H0 dx = none) (hne : dx ≠ a)
    (hq : ∀ fs H', (∀ f : Str, List.lookup f fs = (fields.zip ws).lookup f) → H' a = some (exo a C (some dx)) → H' dx = some (exd dx fs) → (∀ b, b ≠ a → b ≠ dx → H' b = H0 b) → D.nx σ H') :
    ∀ (n : Nat) (rem : List Str) (fs : List (Str × V)) (H : Hp), rem = fields.drop n → n ≤ fields.length → fs.length ≤ n → (∀ f : Str, List.lookup f fs = ((fields.take n).zip ws).lookup f) → H a = some (exo a C (some dx)) → H dx = some (exd dx fs) → (∀ b, b ≠ a → b ≠ dx → H b = H0 b) → remT K rem (n + 1) D σ H := by
  intro n rem
  induction rem generalizing n with
  | nil =>
    intro fs H e hn hfl hf ha hd hr
    have en : n = fields.length := by
      have := congrArg List.length e
      rw [List.length_drop] at this
      simp at this
      omega
    rw [en, List.take_length] at hf
    exact hq fs H hf ha hd hr
  | cons f rem ih =>
    intro fs H e hn hfl hf ha hd hr
    have e1 : fields[n]? = some f := by
      have := congrArg (fun l : List Str => l[0]?) e
      simp only [List.getElem?_cons_zero, List.getElem?_drop, Nat.add_zero] at this
      exact this.symm
    have hlt : n < fields.length := (List.getElem?_eq_some_iff.mp e1).1
    obtain ⟨w, hw⟩ : ∃ w, ws[n]? = some w := ⟨ws[n]'(by omega), List.getElem?_eq_getElem (by omega)⟩
    have e2 : rem = fields.drop (n + 1) := by
      rw [← List.drop_drop, ← e]
      rfl
    show tSeq (tOst K f (tVar 0) (tVar (n + 1))) (remT K rem (n + 1 + 1)) D σ H
    refine ⟨w, hs n w hw, .ref a, h0, a, C, rfl, T, hno f (List.mem_of_getElem? e1), .inr ⟨dx, fs, ha, hd, by omega, ?_⟩⟩
    refine ih (n + 1) ((f, w) :: fs) _ e2 (by omega) (by simp; omega) (fun g => ?_) ?_ upd_same fun b n1 n2 => ?_
    · rw [lookup_put, hf g, zip_take_lookup nd e1 hw hl]
    · rw [upd_ne (Ne.symm hne)]
      exact ha
    · rw [upd_ne n2]
      exact hr b n1 n2
theorem rem_all {K : PySem.W.Frag} {a C : Addr} {ws : List V} {fields : List Str} {D : Ends} {σ : L2.St} {H : Hp} (T : OexC K C) (hno : ∀ f ∈ fields, PySem.W.findIn K (.ref C) f = some none) (nd : fields.Nodup) (hl : ws.length = fields.length) (hle : fields.length ≤ 900) (hnz : fields ≠ []) (h0 : σ[0]? = some (some (.ref a))) (hs : ∀ i w, ws[i]? = some w → σ[i + 1]? = some (some w)) (ha : H a = some (exo a C none))
    (hq : ∀ dx fs H', H dx = none → dx ≠ a → (∀ f : Str, List.lookup f fs = (fields.zip ws).lookup f) → H' a = some (exo a C (some dx)) → H' dx = some (exd dx fs) → (∀ b, b ≠ a → b ≠ dx → H' b = H b) → D.nx σ H') : remT K fields 1 D σ H := by
  cases fields with
  | nil => exact absurd rfl hnz
  | cons f rem =>
    cases ws with
    | nil => cases hl
    | cons w ws =>
      show tSeq (tOst K f (tVar 0) (tVar 1)) (remT K rem (1 + 1)) D σ H
      refine ⟨w, hs 0 w rfl, .ref a, h0, a, C, rfl, T, hno f List.mem_cons_self, .inl ⟨ha, fun dx n ne => ?_⟩⟩
      refine rem_old (dx := dx) (H0 := H) T hno nd hl hle h0 hs n ne (fun fs H' h1 h2 h3 h4 => hq dx fs H' n ne h1 h2 h3 h4) 1 rem [(f, w)] _ rfl (by simp) (by simp) (fun g => ?_) upd_same ?_ fun b n1 n2 => ?_
      · rw [lookup_put]
        by_cases e : g = f
        · subst e
          simp [List.lookup]
        · have e' : (g == f) = false := by simpa using e
          simp [List.lookup, e, e']
      · rw [upd_ne ne, upd_same]
      · rw [upd_ne n1, upd_ne n2]
/-- __init__ of an exception's class keeps the fields -/
theorem xinit {P : Program} {w : World} {K : PySem.W.Frag} {mg : Str → Option Value} {base : Heap} {CX : CXT} {fI : Addr} {name qual : Str} {params : Arguments} {body : List Stmt} {scope : Scope} {kV doc pm cdv ct oc : Value} {an od : Option Addr} {osl : Array (Option Value)} {fields : List Str}
    (lk : K.lookup fI = some ⟨oc, od, .func (PySem.W.fnOf name qual params body scope .none kV doc pm an cdv ct), osl⟩) (hcd : PySem.W.codeIn K cdv qual = true) (S : FnScope (self :: fields) (self :: fields) scope) (hb : storesB self fields body = true) (hv : (self :: fields).all (fun f => !dbg f) = true) (hnz : fields ≠ []) (hle : fields.length ≤ 900) :
    FnOk P w K mg base CX 1 fI (PySem.W.fnOf name qual params body scope .none kV doc pm an cdv ct) (self :: fields) (spX K fields) := by
  have hlen : ∀ vs H Q E, spX K fields vs H Q E → vs.length = (self :: fields).length := fun vs H Q E ⟨a, C, ws, e, hl, _⟩ => by rw [e]; simp [hl]
  refine fn_of lk hcd S hlen fun A outer s H vs Q E hr ⟨a, C, ws, ev, hl, ha, T, hno, q⟩ => ?_
  subst ev
  have vis : ∀ f ∈ self :: fields, Vis scope f := fun f hf => (S.par f hf).imp id .inl
  have hd : ∀ f ∈ self :: fields, (!dbg f) = true := fun f hf => List.all_eq_true.mp hv f hf
  have hn := S.nd
  refine ⟨_, stores_pss (self := self) ⟨rfl, vis self List.mem_cons_self, hd self List.mem_cons_self⟩ (j := 1) hb fun i f e => ⟨?_, vis f (List.mem_cons_of_mem _ (List.mem_of_getElem? e)), hd f (List.mem_cons_of_mem _ (List.mem_of_getElem? e))⟩, ?_⟩
  · show (self :: fields)[1 + i]? = some f
    rw [Nat.add_comm, List.getElem?_cons_succ]
    exact e
  · refine rem_all T hno (List.nodup_cons.mp hn).2 hl hle hnz ?_ (fun i w e => ?_) ha fun dx fs H' n1 n2 n3 n4 n5 n6 => ?_
    · rfl
    · unfold L2.start
      rw [List.getElem?_append_left (by simp; exact (List.getElem?_eq_some_iff.mp e).1)]
      rw [List.map_cons, List.getElem?_cons_succ, List.getElem?_map, e]
      rfl
    · exact q dx fs H' n1 n2 n3 n4 n5 n6
end
end PI
/-! PJ, part l: what must be seen in the heap behind the top. -/
namespace PI
open PySem PySem.Spec L2 PyProof.Rows C8
open He (ga ma fAd eqO eqO_ok ba)
/-- an exception's __init__ -/
structure Xn where
  i : Nat
  self : Str
  qual : Str
  params : Arguments
  body : List Stmt
  scope : Scope
def Xn.st (x : Xn) (c : Cls) : Bool := scC (x.self :: c.fields) (x.self :: c.fields) x.scope && (plainArgs x.params (x.self :: c.fields) && (storesB x.self c.fields x.body && ((x.self :: c.fields).all (fun f => !dbg f) && (!c.fields.isEmpty && decide (c.fields.length ≤ 900)))))
structure Ty1 where
  t : Tx
  xs : List Xn
abbrev Fk := PySem.W.Frag
def Tx.ca (t : Tx) (K : Fk) (i : Nat) : Addr := match t.cs[i]? with
  | some c => ga K c.name
  | none => 0
def Tx.fa (t : Tx) (K : Fk) (f : Nat) : Option Addr := match t.fs[f]? with
  | some d => some (fAd K d.at_)
  | none => match t.cs[f - t.fs.length]? with
    | some c => if c.exc then none else some (ga K c.name)
    | none => none
def Tx.G (t : Tx) (K : Fk) : Txt := ⟨K, t.T, t.fa K, t.ca K, []⟩
/-! ### the tests -/
mutual
def valB (K : Fk) : D → Value → Bool
  | .non, u => match u with
    | .none => true
    | _ => false
  | .bl b, u => match u with
    | .bool c => b == c
    | _ => false
  | .int i, u => match u with
    | .int j _ => decide (i = j)
    | _ => false
  | .str x, u => match u with
    | .str y _ => decide (x = y)
    | _ => false
  | .tup xs, u => match u with
    | .ref a => (match K.lookup a with
      | some ⟨.type c, _, .seq its _, _⟩ => decide (c = "tuple") && (decide (its.size ≤ sizeLine) && valsB K xs its.toList)
      | _ => false)
    | _ => false
  | _, _ => false
def valsB (K : Fk) : List D → List Value → Bool
  | [], us => us.isEmpty
  | d :: ds, us => match us with
    | u :: us => valB K d u && valsB K ds us
    | [] => false
end
def gB (K : Fk) (t : Tx) (x : Str) : Gx → Bool
  | .blt => eqO (PySem.W.nsIn K mainGlobals x) (some none)
  | .gcd => eqO (PySem.W.nsIn K mainGlobals x) (some (some (.builtin "math.gcd")))
  | .fn f => match t.fs[f]? with
    | some d => eqO (PySem.W.nsIn K mainGlobals x) (some (some (.ref (fAd K d.at_))))
    | none => false
  | .val k => match t.gv k, PySem.W.nsIn K mainGlobals x with
    | some d, some (some u) => valB K d u
    | _, _ => false
  | .cls C f => match t.cs[C]? with
    | some c => eqO (PySem.W.nsIn K mainGlobals x) (some (some (.ref (ga K c.name)))) && (!c.exc && decide (f = t.fs.length + C))
    | none => false
  | .exc C b => match t.cs[C]? with
    | some c => eqO (PySem.W.nsIn K mainGlobals x) (some (some (.ref (ga K c.name)))) && (c.exc && (c.fields.isEmpty == b))
    | none => false
def kcB (K : Fk) (a : Addr) (c : Cls) : Bool := eqO (PySem.W.findIn K (.ref a) "__class__") (some (some (.builtin "object.__class__"))) && (eqO (PySem.W.specialIn K (.builtin "object.__class__") "__get__") (some (some (.builtin "getset_descriptor.__get__"))) &&
  (decide (PySem.W.takesIn K (.builtin "object.__class__") = some true) && (decide (PySem.W.mroIn K a (.type "object") = some true) && c.fields.all fun f => eqO (PySem.W.findIn K (.ref a) f) (some none))))
def insB (K : Fk) (t : Tx) (c : Cls) : Bool := (He.Fa.cls c.name).ok K && (kcB K (ga K c.name) c && (decide c.fields.Nodup && (decide (c.fields.length ≤ 900) &&
  ((He.Fa.mkr c.name).ok K && ((match t.fs[c.init]? with
    | some d => decide (d.at_ = (c.name, some ("__init__" : Str)))
    | none => false) && c.meths.all fun mf => (He.Fa.meth c.name mf.1).ok K && (match t.fs[mf.2]? with
    | some d => decide (d.at_ = (c.name, some mf.1))
    | none => false))))))
def oexB (K : Fk) (C : Addr) : Bool := (match K.lookup C with
  | some ⟨.type u, _, .cls cd, sl⟩ => (match cd.mro, sl.toList with
    | .ref C' :: bm, [_, _, _, _, some (.builtin n), _] => decide (u = "type") && (decide (C' = C) && (decide (n = "ValueError.__new__") && (!cd.hasDel && (cd.hasDict && PySem.HandSPX.refsVE bm))))
    | _, _ => false)
  | _ => false) && (eqO (PySem.W.findIn K (.ref C) "__setattr__") (some (some (.builtin "object.__setattr__"))) && (decide (PySem.W.subIn K (.ref C) (.type "BaseException") = some true) && (decide (PySem.W.typeIn K (.ref C) = some (.type "type")) && PySem.W.keepIn K (.ref C))))
def excB (K : Fk) (xs : List Xn) (i : Nat) (c : Cls) : Bool := kcB K (ga K c.name) c && (xfB K (ga K c.name) && (if c.fields.isEmpty then (He.Fa.exc c.name).ok K else
  oexB K (ga K c.name) && (eqO (PySem.W.findIn K (.ref (ga K c.name)) "__init__") (some (some (.ref (ma K (ga K c.name) "__init__")))) && (decide (PySem.W.typeIn K (.ref (ma K (ga K c.name) "__init__")) = some (.type "function")) && xs.any fun x => decide (x.i = i)))))
def repsB (t : Tx) : List D := [.non, .bl false, .int 0, .str "", .tup [], .lst false [], .dic false [] []] ++ (List.range t.cs.length).flatMap fun i => [.ins false i [], .exc i []]
def tysB (t : Tx) : List Ty := [.int, .bool, .str, .tuple, .list, .dict, .valueError] ++ (List.range t.cs.length).map .cls
def kitB (K : Fk) (t : Tx) : Bool := (repsB t).all fun d => (tysB t).all fun ty => !okKind t.T d || (match kindU (t.G K) d, tyIs t.T d ty with
  | some v, some b => decide (PySem.W.kitOne K v (tyU (t.G K) ty) = some b)
  | _, _ => true)
def exmB (K : Fk) (t : Tx) : Bool := (List.range t.cs.length).all fun i => (List.range t.cs.length).all fun j => (match t.cs[j]? with
  | some d => !d.exc
  | none => true) || decide (PySem.W.exmOne K (.ref (t.ca K i)) (.ref (t.ca K j)) = some (isSub t.T i j))
def seeB (t : Tx) (xs : List Xn) (K : Fk) : Bool := (K.lookup sysModules).isSome && (kitB K t && (exmB K t && ((t.glob.all fun xg => gB K t xg.1 xg.2) && (List.range t.cs.length).all fun i => match t.cs[i]? with
  | some c => if c.exc then excB K xs i c else insB K t c
  | none => true)))
/-- the defs to look at -/
def Dn.dd (d : Dn) : He.DefD := ⟨d.at_, d.name, d.qual, d.params, d.body, d.scope, [], []⟩
def Xn.dd (t : Tx) (x : Xn) : He.DefD := ⟨((match t.cs[x.i]? with
  | some c => c.name
  | none => ""), some ("__init__" : Str)), "__init__", x.qual, x.params, x.body, x.scope, [], []⟩
def ddsB (t : Tx) (xs : List Xn) : List He.DefD := t.fs.map Dn.dd ++ xs.map (Xn.dd t)
/-! ### what they tell -/
section
variable {K : Fk} {t : Tx} {xs : List Xn}
theorem kcB_ok {a : Addr} {c : Cls} (h : kcB K a c = true) : PySem.W.findIn K (.ref a) "__class__" = some (some (.builtin "object.__class__")) ∧ PySem.W.specialIn K (.builtin "object.__class__") "__get__" = some (some (.builtin "getset_descriptor.__get__")) ∧ PySem.W.takesIn K (.builtin "object.__class__") = some true ∧ PySem.W.mroIn K a (.type "object") = some true ∧ ∀ f ∈ c.fields, PySem.W.findIn K (.ref a) f = some none := by
  obtain ⟨h1, h⟩ := ba h
  obtain ⟨h2, h⟩ := ba h
  obtain ⟨h3, h⟩ := ba h
  obtain ⟨h4, h5⟩ := ba h
  exact ⟨eqO_ok h1, eqO_ok h2, of_decide_eq_true h3, of_decide_eq_true h4, fun f hf => eqO_ok (List.all_eq_true.mp h5 f hf)⟩
theorem oexB_ok {C : Addr} (h : oexB K C = true) : OexC K C := by
  obtain ⟨h1, h⟩ := ba h
  obtain ⟨h2, h⟩ := ba h
  obtain ⟨h3, h⟩ := ba h
  obtain ⟨h4, h5⟩ := ba h
  refine ⟨?_, eqO_ok h2, of_decide_eq_true h3, of_decide_eq_true h4, h5⟩
  split at h1
  · rename_i u dd cd sl ho
    split at h1
    · rename_i C' bm k0 k1 k2 k3 n k5 hm hs
      obtain ⟨c1, h1⟩ := ba h1
      obtain ⟨c2, h1⟩ := ba h1
      obtain ⟨c3, h1⟩ := ba h1
      obtain ⟨c4, h1⟩ := ba h1
      obtain ⟨c5, c6⟩ := ba h1
      obtain ⟨nm, bs, mro, ns, qn, hd, sn, sub, ab, col, del⟩ := cd
      dsimp only at hm c4 c5
      have e1 := of_decide_eq_true c1
      have e2 := of_decide_eq_true c2
      have e3 := of_decide_eq_true c3
      have e4 : del = false := by simpa using c4
      have hsl : sl = #[k0, k1, k2, k3, some (.builtin n), k5] := by
        obtain ⟨l⟩ := sl
        simp only at hs
        rw [hs]
      subst e1 e2 e3 e4 hm hsl
      have e5 : hd = true := c5
      subst e5
      exact ⟨nm, qn, ns, bs, bm, sn, sub, ab, col, dd, k0, k1, k2, k3, k5, ho, c6⟩
    · cases h1
  · cases h1

mutual
theorem valB_ok {G : Txt} (hG : G.K = K) : ∀ (d : D) (u : Value), valB K d u = true → ∃ v, RelV v u ∧ ∀ (pn : List (Addr × Obj)) (O : Addr → Prop) (H : Hp), RelD G pn O H d v
  | .non, u, h => by
    cases u with
    | none => exact ⟨.non, rfl, fun pn O H => rfl⟩
    | _ => cases h
  | .bl b, u, h => by
    cases u with
    | bool c =>
      have e : b = c := by simpa [valB] using h
      subst e
      exact ⟨.bl b, rfl, fun pn O H => rfl⟩
    | _ => cases h
  | .int i, u, h => by
    cases u with
    | int j tk =>
      have e : i = j := by simpa [valB] using h
      subst e
      exact ⟨.int i, ⟨tk, rfl⟩, fun pn O H => rfl⟩
    | _ => cases h
  | .str x, u, h => by
    cases u with
    | str y tk =>
      have e : x = y := by simpa [valB] using h
      subst e
      exact ⟨.str x, ⟨tk, rfl⟩, fun pn O H => rfl⟩
    | _ => cases h
  | .tup xs, u, h => by
    cases u with
    | ref a =>
      unfold valB at h
      simp only at h
      split at h
      · rename_i c od its n sl q
        obtain ⟨h1, h⟩ := ba h
        obtain ⟨h2, h3⟩ := ba h
        obtain ⟨vs, r1, r2⟩ := valsB_ok hG xs _ h3
        have e := of_decide_eq_true h1
        subst e
        exact ⟨.ref a, rfl, fun pn O H => ⟨a, vs, rfl, .inr ⟨_, its, n, by rw [hG]; exact q, rfl, rfl, of_decide_eq_true h2, r1⟩, r2 pn O H⟩⟩
      · cases h
    | _ => cases h
  | .lst .., _, h => by cases h
  | .scr _, _, h => by cases h
  | .dic .., _, h => by cases h
  | .ins .., _, h => by cases h
  | .fn _, _, h => by cases h
  | .exc .., _, h => by cases h
theorem valsB_ok {G : Txt} (hG : G.K = K) : ∀ (ds : List D) (us : List Value), valsB K ds us = true → ∃ vs, Vals vs us ∧ ∀ (pn : List (Addr × Obj)) (O : Addr → Prop) (H : Hp), RelDs G pn O H ds vs
  | [], us, h => by
    cases us with
    | nil => exact ⟨[], .nil, fun pn O H => rfl⟩
    | cons _ _ => cases h
  | d :: ds, us, h => by
    cases us with
    | nil => cases h
    | cons u us =>
      obtain ⟨h1, h2⟩ := ba h
      obtain ⟨v, r1, r2⟩ := valB_ok hG d u h1
      obtain ⟨vs, r3, r4⟩ := valsB_ok hG ds us h2
      exact ⟨v :: vs, .cons r1 r3, fun pn O H => ⟨v, vs, rfl, r2 pn O H, r4 pn O H⟩⟩
end
theorem T_some {i : Nat} {c : Cls} (h : t.T i = some c) : i ∈ List.range t.cs.length ∧ t.cs[i]? = some c := by
  have h' : t.cs[i]? = some c := h
  exact ⟨List.mem_range.mpr (List.getElem?_eq_some_iff.mp h').1, h'⟩
theorem ca_some {i : Nat} {c : Cls} (h : t.T i = some c) : (t.G K).ca i = ga K c.name := by
  show t.ca K i = _
  unfold Tx.ca
  rw [(T_some h).2]
theorem ty_mem {d : D} {ty : Ty} {b : Bool} (h : tyIs t.T d ty = some b) : ty ∈ tysB t := by
  unfold tysB
  cases ty with
  | cls C =>
    refine List.mem_append_right _ (List.mem_map.mpr ⟨C, ?_, rfl⟩)
    have hs : (t.T C).isSome = true := by
      cases e : (t.T C).isSome with
      | true => rfl
      | false =>
        have : tyIs t.T d (.cls C) = none := by
          show (if (t.T C).isSome = true then _ else none) = none
          rw [e, if_neg (by simp)]
        rw [this] at h
        cases h
    obtain ⟨c, e⟩ := Option.isSome_iff_exists.mp hs
    exact (T_some e).1
  | _ => exact List.mem_append_left _ (by decide)
theorem rep_ok {d : D} {v : Value} (hk : okKind t.T d = true) (e : kindU (t.G K) d = some v) : ∃ r ∈ repsB t, okKind t.T r = true ∧ kindU (t.G K) r = some v ∧ ∀ ty b, tyIs t.T d ty = some b → tyIs t.T r ty = some b := by
  have base : ∀ r, r ∈ [D.non, .bl false, .int 0, .str "", .tup [], .lst false [], .dic false [] []] → r ∈ repsB t := fun r h => List.mem_append_left _ h
  have cl : ∀ i c r, t.T i = some c → r ∈ [D.ins false i [], .exc i []] → r ∈ repsB t := fun i c r h hr => List.mem_append_right _ (List.mem_flatMap.mpr ⟨i, (T_some h).1, hr⟩)
  have same : ∀ {d r : D}, (∀ ty, tyIs t.T d ty = tyIs t.T r ty) → ∀ ty b, tyIs t.T d ty = some b → tyIs t.T r ty = some b := fun h ty b q => by rw [← h ty]; exact q
  cases d with
  | non => exact ⟨.non, base _ (by simp), rfl, e, fun ty b q => q⟩
  | bl x => exact ⟨.bl false, base _ (by simp), rfl, e, same fun ty => by cases ty <;> rfl⟩
  | int x => exact ⟨.int 0, base _ (by simp), rfl, e, same fun ty => by cases ty <;> rfl⟩
  | str x => exact ⟨.str "", base _ (by simp), rfl, e, same fun ty => by cases ty <;> rfl⟩
  | tup x => exact ⟨.tup [], base _ (by simp), rfl, e, same fun ty => by cases ty <;> rfl⟩
  | lst o x => exact ⟨.lst false [], base _ (by simp), rfl, e, same fun ty => by cases ty <;> rfl⟩
  | scr x => exact ⟨.lst false [], base _ (by simp), rfl, e, same fun ty => by cases ty <;> rfl⟩
  | dic o x y => exact ⟨.dic false [] [], base _ (by simp), rfl, e, same fun ty => by cases ty <;> rfl⟩
  | fn f => cases e
  | ins o i x =>
    obtain ⟨c, hc, _⟩ := (okKind_ins (G := t.G K) hk).1 o i x rfl
    exact ⟨.ins false i [], cl i c _ hc (by simp), hk, e, same fun ty => by cases ty <;> rfl⟩
  | exc i x =>
    obtain ⟨c, hc, _⟩ := (okKind_ins (G := t.G K) hk).2 i x rfl
    exact ⟨.exc i [], cl i c _ hc (by simp), hk, e, same fun ty => by cases ty <;> rfl⟩
theorem kitB_ok (h : kitB K t = true) (d : D) (v : Value) (ty : Ty) (b : Bool) (hk : okKind (t.G K).T d = true) (e1 : kindU (t.G K) d = some v) (e2 : tyIs (t.G K).T d ty = some b) : PySem.W.kitOne K v (tyU (t.G K) ty) = some b := by
  obtain ⟨r, hr, k1, k2, k3⟩ := rep_ok hk e1
  have k4 := k3 ty b e2
  have h2 := List.all_eq_true.mp (List.all_eq_true.mp h r hr) ty (ty_mem e2)
  rw [k1, k2, k4] at h2
  exact of_decide_eq_true (by simpa using h2)
theorem exmB_ok (h : exmB K t = true) {i j : Nat} {c d : Cls} (hi : t.T i = some c) (hj : t.T j = some d) (hx : d.exc = true) : PySem.W.exmOne K (.ref (t.ca K i)) (.ref (t.ca K j)) = some (isSub t.T i j) := by
  have h2 := List.all_eq_true.mp (List.all_eq_true.mp h i (T_some hi).1) j (T_some hj).1
  rw [(T_some hj).2] at h2
  simp only [hx, Bool.not_true, Bool.false_or] at h2
  exact of_decide_eq_true h2
end
end PI
/-! PJ, part m: the text's facts from what is seen. -/
namespace PI
open PySem PySem.Spec L2 PyProof.Rows C8
open He (ga ma fAd eqO eqO_ok ba)
def Xn.okB (t : Tx) (x : Xn) : Bool := match t.cs[x.i]? with
  | some c => x.st c
  | none => false
section
variable {P : Program} {w : World} {K : Fk} {mg : Str → Option Value} {base : Heap} {t : Tx} {xs : List Xn}
theorem fun_at {name qual : Str} {params : Arguments} {body : List Stmt} {scope : Scope} {f : Addr} {fd : FuncData} (F : FunD K name qual params body scope [] [] f fd) :
    ∃ oc od osl kV doc pm an cdv ct, K.lookup f = some ⟨oc, od, .func (PySem.W.fnOf name qual params body scope .none kV doc pm an cdv ct), osl⟩ ∧ PySem.W.codeIn K cdv qual = true := by
  obtain ⟨oc, od, dV, kV, doc, pm, an, cdv, ct, osl, rfl, lk, hcd, hD, hK⟩ := F.ex
  rcases hD with ⟨_, rfl⟩ | ⟨h, _⟩
  · exact ⟨oc, od, osl, kV, doc, pm, an, cdv, ct, lk, hcd⟩
  · exact absurd rfl h
theorem fa_fn {f : Nat} {d : Dn} (h : t.fs[f]? = some d) : (t.G K).fa f = some (fAd K d.at_) := by
  show t.fa K f = _
  unfold Tx.fa
  rw [h]
theorem fa_cl {f : Nat} {a : Addr} (h : t.fs[f]? = none) (e : (t.G K).fa f = some a) : ∃ c, t.T (f - t.fs.length) = some c ∧ c.exc = false ∧ a = ga K c.name := by
  have e' : t.fa K f = some a := e
  unfold Tx.fa at e'
  rw [h] at e'
  simp only at e'
  cases q : t.cs[f - t.fs.length]? with
  | none => rw [q] at e'; cases e'
  | some c =>
    rw [q] at e'
    simp only at e'
    split at e'
    · cases e'
    · rename_i hx
      cases e'
      exact ⟨c, q, by simpa using hx, rfl⟩
theorem fAd_m {x m : Str} : fAd K (x, some m) = ma K (ga K x) m := rfl
structure SeeOk (K : Fk) (t : Tx) (xs : List Xn) : Prop where
  sm : ∃ o, K.lookup sysModules = some o
  kit : kitB K t = true
  exm : exmB K t = true
  glob : ∀ x g, t.glob.lookup x = some g → gB K t x g = true
  ins : ∀ i c, t.T i = some c → c.exc = false → insB K t c = true
  exc : ∀ i c, t.T i = some c → c.exc = true → excB K xs i c = true
theorem seeB_ok (h : seeB t xs K = true) : SeeOk K t xs := by
  obtain ⟨h1, h⟩ := ba h
  obtain ⟨h2, h⟩ := ba h
  obtain ⟨h3, h⟩ := ba h
  obtain ⟨h4, h5⟩ := ba h
  have cl : ∀ i c, t.T i = some c → (if c.exc then excB K xs i c else insB K t c) = true := fun i c e => by
    have q := List.all_eq_true.mp h5 i (T_some e).1
    rw [(T_some e).2] at q
    exact q
  refine ⟨Option.isSome_iff_exists.mp h1, h2, h3, fun x g e => List.all_eq_true.mp h4 _ (PySem.mem_of_lookup e), fun i c e hx => ?_, fun i c e hx => ?_⟩
  · have := cl i c e
    rw [hx, if_neg (by simp)] at this
    exact this
  · have := cl i c e
    rw [hx, if_pos rfl] at this
    exact this
theorem txOk_of (S : SeeOk K t xs) (hD : ∀ d ∈ ddsB t xs, ∃ fd, FunD K d.name d.qual d.params d.body d.scope [] [] (fAd K d.at_) fd) (hx : ∀ x ∈ xs, x.okB t = true) (kin : K.In base) (ns : base.Ns mainGlobals mg) : TxOk P w K mg base (t.G K) t := by
  have dfn : ∀ {f : Nat} {d : Dn}, t.fs[f]? = some d → DnAt K (fAd K d.at_) d := fun {f d} h => by
    obtain ⟨fd, F⟩ := hD d.dd (List.mem_append_left _ (List.mem_map.mpr ⟨d, List.mem_of_getElem? h, rfl⟩))
    exact ⟨fun_at F, F.kp⟩
  refine ⟨rfl, rfl, fun f d a h e => ?_, fun f a h e => ?_, fun x g h => ?_, ⟨fun i c hT hc => ?_, fun i c hT hc => ?_, fun d v ty b hk e1 e2 => kitB_ok S.kit d v ty b hk e1 e2⟩, fun i c m f hT hc hm => ?_, fun i c hT hc => ?_, fun i c j d hi hj hd => exmB_ok S.exm hi hj hd, S.sm⟩
  · rw [fa_fn h] at e
    cases e
    exact dfn h
  · obtain ⟨c, h1, h2, rfl⟩ := fa_cl h e
    obtain ⟨q1, q⟩ := ba (S.ins _ c h1 h2)
    obtain ⟨q2, q⟩ := ba q
    obtain ⟨q3, q⟩ := ba q
    obtain ⟨q4, q⟩ := ba q
    obtain ⟨q5, q⟩ := ba q
    obtain ⟨q6, q7⟩ := ba q
    have M := He.mkr_ok q5
    cases hd : t.fs[c.init]? with
    | none => rw [hd] at q6; cases q6
    | some d =>
      rw [hd] at q6
      have e1 := of_decide_eq_true q6
      refine ⟨M.kp, c, d, ma K (ga K c.name) "__init__", h1, (ca_some h1).symm, hd, ?_, by rw [ca_some h1]; exact M⟩
      rw [fa_fn hd, e1, fAd_m]
  · have z := S.glob x g h
    cases g with
    | blt => exact PySem.W.mg_none_of kin ns (eqO_ok z)
    | gcd => exact PySem.W.mg_of kin ns (eqO_ok z)
    | fn f =>
      cases hd : t.fs[f]? with
      | none => simp [gB, hd] at z
      | some d =>
        simp only [gB, hd] at z
        exact ⟨_, fa_fn hd, PySem.W.mg_of kin ns (eqO_ok z)⟩
    | val k =>
      unfold gB at z
      simp only at z
      split at z
      · rename_i d u q1 q2
        obtain ⟨v, r1, r2⟩ := valB_ok (G := t.G K) rfl d u z
        exact ⟨d, v, u, q1, PySem.W.mg_of kin ns q2, r1, r2⟩
      · cases z
    | cls C f =>
      cases hc : t.cs[C]? with
      | none => simp [gB, hc] at z
      | some c =>
        simp only [gB, hc] at z
        obtain ⟨z1, z⟩ := ba z
        obtain ⟨z2, z3⟩ := ba z
        have ef := of_decide_eq_true z3
        have eca : (t.G K).ca C = ga K c.name := ca_some hc
        refine ⟨by rw [eca]; exact PySem.W.mg_of kin ns (eqO_ok z1), ?_⟩
        show t.fa K f = _
        unfold Tx.fa
        have hn : t.fs[f]? = none := List.getElem?_eq_none (by omega)
        rw [hn, ef, show t.fs.length + C - t.fs.length = C by omega, hc]
        simp only
        rw [if_neg (by simpa using z2), eca]
    | exc C b =>
      cases hc : t.cs[C]? with
      | none => simp [gB, hc] at z
      | some c =>
        simp only [gB, hc] at z
        obtain ⟨z1, z⟩ := ba z
        obtain ⟨z2, z3⟩ := ba z
        have eca : (t.G K).ca C = ga K c.name := ca_some hc
        exact ⟨by rw [eca]; exact PySem.W.mg_of kin ns (eqO_ok z1), c, hc, z2, by simpa using z3⟩
  · obtain ⟨q1, q⟩ := ba (S.ins i c hT hc)
    obtain ⟨q2, q⟩ := ba q
    obtain ⟨q3, q⟩ := ba q
    obtain ⟨q4, q⟩ := ba q
    obtain ⟨k1, k2, k3, k4, k5⟩ := kcB_ok q2
    rw [ca_some hT]
    exact ⟨He.cls_ok q1, k1, k2, k3, k4, k5, of_decide_eq_true q3, of_decide_eq_true q4⟩
  · obtain ⟨q1, q⟩ := ba (S.exc i c hT hc)
    obtain ⟨q2, q⟩ := ba q
    obtain ⟨k1, k2, k3, k4, k5⟩ := kcB_ok q1
    rw [ca_some hT]
    exact ⟨xfB_ok q2, k1, k2, k3, k4, k5⟩
  · obtain ⟨q1, q⟩ := ba (S.ins i c hT hc)
    obtain ⟨q2, q⟩ := ba q
    obtain ⟨q3, q⟩ := ba q
    obtain ⟨q4, q⟩ := ba q
    obtain ⟨q5, q⟩ := ba q
    obtain ⟨q6, q7⟩ := ba q
    obtain ⟨r1, r2⟩ := ba (List.all_eq_true.mp q7 (m, f) (PySem.mem_of_lookup hm))
    cases hd : t.fs[f]? with
    | none => rw [hd] at r2; cases r2
    | some d =>
      rw [hd] at r2
      have e1 : d.at_ = (c.name, some m) := of_decide_eq_true r2
      refine ⟨_, fa_fn hd, ?_⟩
      rw [ca_some hT, e1, fAd_m]
      exact He.meth_ok r1
  · obtain ⟨q1, q⟩ := ba (S.exc i c hT hc)
    obtain ⟨q2, q⟩ := ba q
    obtain ⟨k1, k2, k3, k4, k5⟩ := kcB_ok q1
    rw [ca_some hT]
    split at q
    · rename_i hz
      obtain ⟨e1, e2, e3, e4⟩ := He.exc_ok q
      exact .bare He.veBase _ _ _ (List.isEmpty_iff.mp hz) PySem.F.excBase_ValueError e1 e2 e3 e4
    · rename_i hz
      obtain ⟨e1, q⟩ := ba q
      obtain ⟨e2, q⟩ := ba q
      obtain ⟨e3, e4⟩ := ba q
      obtain ⟨x, hxm, e5⟩ := List.any_eq_true.mp e4
      have e6 : x.i = i := of_decide_eq_true e5
      have hxo := hx x hxm
      unfold Xn.okB at hxo
      rw [e6, (T_some hT).2] at hxo
      unfold Xn.st at hxo
      obtain ⟨s1, hxo⟩ := ba hxo
      obtain ⟨s2, hxo⟩ := ba hxo
      obtain ⟨s3, hxo⟩ := ba hxo
      obtain ⟨s4, hxo⟩ := ba hxo
      obtain ⟨s5, s6⟩ := ba hxo
      obtain ⟨fd, F⟩ := hD (x.dd t) (List.mem_append_right _ (List.mem_map.mpr ⟨x, hxm, rfl⟩))
      have ea : fAd K (x.dd t).at_ = ma K (ga K c.name) "__init__" := by
        show fAd K ((match t.cs[x.i]? with | some c => c.name | none => ""), some ("__init__" : Str)) = _
        rw [e6, (T_some hT).2]
        rfl
      rw [ea] at F
      obtain ⟨oc, od, osl, kV, doc, pm, an, cdv, ct, lk, hcd⟩ := fun_at F
      have hnz : c.fields ≠ [] := fun z => hz (by rw [z]; rfl)
      have hle : c.fields.length ≤ 900 := of_decide_eq_true s6
      exact .init hnz _ _ _ (oexB_ok e1) (eqO_ok e2) (of_decide_eq_true e3) k5 (by omega) (xinit lk hcd (fnScope_by s1) s3 s4 hnz hle) (binds_plain s2)
end
end PI
/-! PJ, part n: the law's end, the Hook. -/
namespace PI
open PySem PySem.Spec L2 PyProof.Rows C8
open He (ga ma fAd eqO eqO_ok ba)
section
variable {K : Fk} {mg mb : Str → Option Value} {s1 : Shared} {a : Addr} {vs : List Value} {ns : List Int}
def lsO (vs : List Value) : Obj := { cls := .type "list", data := .seq vs.toArray }
/-- nothing is tracked but the script -/
def scrH (a : Addr) (vs : List Value) (ns : List Int) : Hp := fun b => if b = a then some (.frz (lsO vs) (.lst (ns.map V.int))) else none
theorem scrH_at : scrH a vs ns a = some (.frz (lsO vs) (.lst (ns.map V.int))) := if_pos rfl
theorem scrH_ne {b : Addr} (h : b ≠ a) : scrH a vs ns b = none := if_neg h
theorem scrH_some {b : Addr} {u : HO} (h : scrH a vs ns b = some u) : b = a ∧ u = .frz (lsO vs) (.lst (ns.map V.int)) := by
  by_cases e : b = a
  · subst e
    rw [scrH_at] at h
    exact ⟨rfl, (Option.some.inj h).symm⟩
  · rw [scrH_ne e] at h
    cases h
theorem scr_ok {P : Program} {w : World} (ha : s1.heap.get? a = some (lsO vs)) (hi : IntsAre vs ns) (hl : ns.length ≤ sizeLine) : HOk P w (scrH a vs ns) s1.heap := fun b u h => by
  obtain ⟨rfl, rfl⟩ := scrH_some h
  exact ⟨ha, by rw [List.length_map]; exact hl, vs, _, vals_ints hi, ha⟩
/-- the ground below: all but the script -/
theorem scr_env {P : Program} {w : World} (kin : K.In s1.heap) (hK : K.lookup a = none) (hns : s1.heap.Ns mainGlobals mg) (hb : s1.heap.Ns builtinsNs mb) (hbb : ∀ x : Str, x ≠ "__name__" → mb x = bootBuiltins x) (hlim : s1.heap.NoLimit) (hg : s1.gens = #[]) (ha : s1.heap.get? a = some (lsO vs)) (hi : IntsAre vs ns) (hl : ns.length ≤ sizeLine) :
    ∃ base : Heap, K.In base ∧ base.Ns mainGlobals mg ∧ Env0 P w K mg base callerA [] s1 (scrH a vs ns) := by
  have other : ∀ {b : Addr} {o : Obj}, s1.heap.get? b = some o → b ≠ a → (hidT s1.heap (scrH a vs ns)).get? b = some o := fun e n => hidT_get e (scrH_ne n)
  have space : ∀ {b : Addr} {m : Str → Option Value}, s1.heap.Ns b m → (hidT s1.heap (scrH a vs ns)).Ns b m := fun {b m} h => by
    obtain ⟨o, es, ep, e, d, r⟩ := h
    refine ⟨o, es, ep, other e fun z => ?_, d, r⟩
    subst z
    rw [ha] at e
    cases e
    cases d
  have kb : K.In (hidT s1.heap (scrH a vs ns)) := fun b o e => other (kin b o e) fun z => by
    rw [z, hK] at e
    cases e
  obtain ⟨mc, l1, l2⟩ := hlim
  exact ⟨_, kb, space hns, ⟨rfl, ⟨kb, space hns, ⟨mb, space hb, hbb⟩, ⟨mc, space l1, l2⟩⟩, fun b o e => of_hidT e, Nat.le_of_eq (hidT_size _ _), trivial, (fun b z => by cases z), scr_ok ha hi hl, .of_eq hg⟩⟩
/-- what the script's reader starts from -/
theorem scr_sr {G : Txt} {O : Addr → Prop} (hO : ∀ b, ¬ O b) (hT : G.tabs = []) : SR G [] O (scrH a vs ns) (argE [.scr ns]) (argS [V.ref a]) := by
  have no : ∀ b, ¬ Lo (argE [.scr ns]) (argS [V.ref a]) b := fun b ⟨i, h, _⟩ => by
    cases i with
    | zero => cases h
    | succ i =>
      obtain ⟨d, e, _⟩ := ownAt_true h
      simp [argE, rdS] at e
  refine ⟨rfl, fun i d e => ?_, fun i j b h1 _ => absurd ⟨i, h1⟩ (no b), fun b q => absurd q (no b), fun b q => absurd q (hO b), ?_⟩
  · cases i with
    | zero =>
      have e' : D.scr ns = d := by simpa [argE, rdS] using e
      subst e'
      have r : RelD G [] (Oo O (argE [.scr ns]) (argS [V.ref a])) (scrH a vs ns) (.scr ns) (.ref a) := ⟨a, lsO vs, rfl, fun q => q.elim (hO a) (no a), scrH_at⟩
      exact ⟨.ref a, rfl, r, fun _ => r⟩
    | succ i => simp [argE, rdS] at e
  · rw [hT]
    intro p hp
    cases hp
/-- the law's call -/
theorem law_at {P : Program} {w : World} {G : Txt} {base : Heap} {hot : Bool} {k : Nat} {fd : FuncData} {x : Str} {F : List D → FOut} {fa : Addr} (e0 : Env0 P w K mg base callerA [] s1 (scrH a vs ns)) (hT : G.tabs = []) (hr : Room k callerA) (Fi : FnI P w K mg base G hot k fa fd [x] F) (hb : Binds K fd [x] []) (kin : K.In s1.heap) (hF : F [.scr ns] = .ok (.bl true) [none]) :
    codeAny (model P w) callerA (.call (.ref fa) ⟨[.ref a], []⟩) (fun r s' => r = .ok (.ret (.bool true)) ∧ OldK s1.heap s'.heap ∧ s'.os = s1.os ∧ AllBare s'.gens) s1 := by
  have bt : BindsTo s1 fd ⟨[.ref a], []⟩ ([x].zip [.ref a]) := hb s1 [.ref a] kin rfl
  have sp : SpI G [] F [V.ref a] (scrH a vs ns) (fun v _ => v = .bl true) fun _ _ _ => False := by
    refine ⟨fun _ => False, [.scr ns], scr_sr (fun _ z => z) hT, ?_⟩
    rw [hF]
    exact fun b H' _ _ _ r => r.1 rfl
  refine codeAny_mono (Fi.run callerA [] s1 (scrH a vs ns) ⟨[.ref a], []⟩ [.ref a] [.ref a] _ _ hr rfl e0 bt (.cons rfl .nil) sp) fun r s' h => ?_
  match r, h with
  | .error e, h =>
    obtain ⟨_, _, _, _, _, _, _, _, _, _, _, _, z⟩ := h
    exact z.elim
  | .ok .next, h => exact False.elim h
  | .ok .brk, h => exact False.elim h
  | .ok .cont, h => exact False.elim h
  | .ok (.ret u), h =>
    obtain ⟨v, H', e1, e2, un, ok', rv, q⟩ := h
    have q' : v = .bl true := q
    subst q'
    have eu : u = Value.bool true := rv
    subst eu
    refine ⟨rfl, OldK.of_keep fun b o e => ?_, e1, e2⟩
    by_cases z : b = a
    · subst z
      have f1 := un.frzs b _ _ scrH_at
      have g1 := (e0.hok b _ scrH_at).1
      rw [e] at g1
      cases g1
      exact (ok' b _ f1).1
    · exact un.keep b o e (scrH_ne z) (fun z => by cases z) (by simp)
end
end PI
/-! PJ, part o: what the run of the top is asked for; the law from its plain form. -/
namespace PI
open PySem PySem.Spec L2 PyProof.Rows C8
open He (ga ma fAd eqO eqO_ok ba frG asD fnW)
def isList (o : Obj) : Bool := match o.cls with
  | .type c => c == "list"
  | _ => false
/-- the objects that the names reach, lists left out -/
def frP (n : Nat) (g : Addr → Option Obj) : Fk := (frG g (sysModules :: asD g n)).filter fun q => !isList q.2
theorem frP_mem {n : Nat} {g : Addr → Option Obj} {a : Addr} {o : Obj} (h : (frP n g).lookup a = some o) : g a = some o ∧ isList o = false := by
  obtain ⟨h1, h2⟩ := List.mem_filter.mp (He.lookup_mem h)
  exact ⟨He.frG_mem h1, by simpa using h2⟩
abbrev AlP : Type := Bool × List He.FnW
def obsK (t : Tx) (xs : List Xn) (K : Fk) : AlP := (seeB t xs K && (ddsB t xs).all fun d => d.ok K, (ddsB t xs).map fun d => fnW K d.at_)
def valK (t : Tx) (xs : List Xn) : AlP := (true, (ddsB t xs).map He.DefD.val)
def obsP (n : Nat) (t : Tx) (xs : List Xn) (g : Addr → Option Obj) : AlP := obsK t xs (frP n g)
def SaysP (t : Tx) (xs : List Xn) (h : Heap) (K : Fk) : Prop := K.In h ∧ (∀ a o, K.lookup a = some o → isList o = false) ∧ obsK t xs K = valK t xs
def hookP (n : Nat) (t : Tx) (xs : List Xn) : PySem.W.Hook where
  α := AlP
  obs := fun s => obsP n t xs s.heap.get?
  val := fun _ => valK t xs
  says := fun _ h => ∃ K : Fk, SaysP t xs h K
  of := fun _ _ e => ⟨_, fun _ _ q => (frP_mem q).1, fun _ _ q => (frP_mem q).2, e⟩
  keeps := fun _ _ _ ⟨K, h1, h2, h3⟩ k => ⟨K, PySem.W.Frag.In.keeps h1 k, h2, h3⟩
theorem obsP_eq {n : Nat} {t : Tx} {xs : List Xn} (s : PySem.W.SharedT) : obsP n t xs (HandSHeadRun.getT s) = (hookP n t xs).obs s.abs := by
  have e : HandSHeadRun.getT s = s.abs.heap.get? := funext fun a => HandSHeadRun.getT_eq s a
  rw [e]
  rfl
section
variable {t : Tx} {xs : List Xn} {K : Fk}
theorem saysP_ok (h : obsK t xs K = valK t xs) : SeeOk K t xs ∧ ∀ d ∈ ddsB t xs, ∃ fd, FunD K d.name d.qual d.params d.body d.scope (d.dvs K) (d.kws K) (fAd K d.at_) fd := by
  have e1 : (seeB t xs K && (ddsB t xs).all fun d => d.ok K) = true := congrArg (fun z : AlP => z.1) h
  have e2 : ((ddsB t xs).map fun d => fnW K d.at_) = (ddsB t xs).map He.DefD.val := congrArg (fun z : AlP => z.2) h
  obtain ⟨h1, h2⟩ := ba e1
  refine ⟨seeB_ok h1, fun d hd => ?_⟩
  obtain ⟨i, hi, e⟩ := List.mem_iff_getElem.mp hd
  have e3 : (ddsB t xs)[i]? = some d := by rw [List.getElem?_eq_getElem hi, e]
  have e4 : ((ddsB t xs).map fun d => fnW K d.at_)[i]? = ((ddsB t xs).map He.DefD.val)[i]? := by rw [e2]
  rw [List.getElem?_map, List.getElem?_map, e3] at e4
  exact He.DefD.funD (Option.some.inj e4) (List.all_eq_true.mp h2 d hd)
theorem dds_plain {d : He.DefD} (h : d ∈ ddsB t xs) : d.dfl = [] ∧ d.kwd = [] := by
  rcases List.mem_append.mp h with h | h
  · obtain ⟨x, _, rfl⟩ := List.mem_map.mp h
    exact ⟨rfl, rfl⟩
  · obtain ⟨x, _, rfl⟩ := List.mem_map.mp h
    exact ⟨rfl, rfl⟩
/-- what must hold of the text alone -/
def allB (t : Tx) (xs : List Xn) (x : Str) (f : Nat) : Bool := (t.fs.all fun d => t.chk d) && ((xs.all fun x => x.okB t) && (decide (t.glob.lookup x = some (.fn f)) && (match t.fs[f]? with
  | some d => decide (d.ps.length = 1)
  | none => false)))
theorem law_walk {l : PySem.W.OpenLaw} {n L f : Nat} {q : Program} {loose : List Str} {XP : (Str → Option Value) → Heap → Prop} {d : DefRec} {j : Nat} (hn : l.most = some n) (hn2 : n ≤ sizeLine) (hdf : d.params.defaults = []) (hL : L ≤ 40) (hall : allB t xs d.name f = true)
    (plain : ∀ ns : List Int, ns.length ≤ n → (∀ k ∈ ns, Builtin.Int.intBits k ≤ 1048576) → callF t.T t.gv t.tb L f [.scr ns] = .ok (.bl true) [none]) :
    PySem.W.WalkO q loose XP (hookP j t xs).says l.row.toRowW d [] (fun f vs => PySem.call f vs) := by
  obtain ⟨c1, c⟩ := ba hall
  obtain ⟨c2, c⟩ := ba c
  obtain ⟨c3, c4⟩ := ba c
  refine Att.attach_callB hn hdf fun w s0 s1 mg mb fa o pm cd doc a vs ns G Y ho hd hcd hmg hobj hints hlen hbits hg => ?_
  obtain ⟨K, kin, knl, hs⟩ := Y
  obtain ⟨S, hD⟩ := saysP_ok hs
  have hK : K.lookup a = none := by
    cases e : K.lookup a with
    | none => rfl
    | some o =>
      have e1 := kin a o e
      rw [hobj] at e1
      cases e1
      have z : ("list" == "list") = false := knl a _ e
      exact absurd z (by decide)
  obtain ⟨base, kb, ns0, e0⟩ := scr_env (P := l.prog) (w := w) kin hK G.T.g G.T.b G.T.builtins G.T.nolimit hg hobj hints (Nat.le_trans hlen hn2)
  have ok : TxOk l.prog w K mg base (t.G K) t := txOk_of S (fun d hd => (by
    have h1 := hD d hd
    obtain ⟨e1, e2⟩ := dds_plain hd
    unfold He.DefD.dvs He.DefD.kws at h1
    rw [e1, e2] at h1
    exact h1)) (fun x hx => List.all_eq_true.mp c2 x hx) kb ns0
  obtain ⟨fs, _⟩ := level ok (fun d hd => List.all_eq_true.mp c1 d hd) L
  cases hf : t.fs[f]? with
  | none => rw [hf] at c4; cases c4
  | some dl =>
    rw [hf] at c4
    obtain ⟨a2, g1, g2⟩ := ok.glob d.name (.fn f) (of_decide_eq_true c3)
    have ea : a2 = fa := by
      rw [hmg] at g2
      cases g2
      rfl
    subst ea
    obtain ⟨fd, Fi, hb⟩ := fs f dl a2 hf g1
    obtain ⟨x, ex⟩ : ∃ x, dl.ps = [x] := by
      have := of_decide_eq_true c4
      match h : dl.ps, this with
      | [x], _ => exact ⟨x, rfl⟩
    rw [ex] at Fi hb
    have hr : Room (L + 2) callerA := ⟨rfl, by
      show 1 + claimMargin + 3 * (L + 2) + 5 < recursionLimit
      have : 1 + claimMargin + 3 * (40 + 2) + 5 < recursionLimit := by decide +kernel
      omega, by
      show 4 + 16 * (L + 2) + 200 < cLine
      have : 4 + 16 * (40 + 2) + 200 < cLine := by decide +kernel
      omega⟩
    exact law_at e0 rfl hr Fi hb kin (plain ns hlen hbits)
end
end PI
/-! PK, part a: cores are run by rewriting. -/
namespace PI
open PySem
noncomputable def cxN (t : Tx) (n : Nat) : Ctx := ⟨t.T, t.gv, callF t.T t.gv t.tb n, fun g c => match t.tb g with
        | some (.fn d) => finF [] (runs ⟨t.T, t.gv, callF t.T t.gv t.tb n, fun _ _ => .stuck, c⟩ d.body (List.replicate d.n none))
        | _ => .stuck, .stuck⟩
theorem callF_succ {t : Tx} {n f : Nat} {d : Dn} {ds : List D} (h : t.fs[f]? = some d) : callF t.T t.gv t.tb (n + 1) f ds = bodyF (cxN t n) d.core ds := by
  have e : t.tb f = some (.fn d.core) := by
    unfold Tx.tb
    rw [h]
  rw [callF]
  simp only [e]
  rfl
theorem cx_T {t : Tx} {n : Nat} : (cxN t n).T = t.T := rfl
theorem cx_F {t : Tx} {n : Nat} : (cxN t n).F = callF t.T t.gv t.tb n := rfl
theorem cx_gv {t : Tx} {n : Nat} : (cxN t n).gv = t.gv := rfl
section
variable {T : ClsT} {a b : Int} {x y : D} {xs : List D}
theorem eqv_int : PyData.eqv (.int a) (.int b) = decide (a = b) := by
  unfold PyData.eqv
  by_cases h : a = b
  · subst h
    simp
  · simp [h]
theorem q_add : pr T .add [.int a, .int b] = some (.int (a + b)) := rfl
theorem q_sub : pr T .sub [.int a, .int b] = some (.int (a - b)) := rfl
theorem q_mul (h : mulOk a b = true) : pr T .mul [.int a, .int b] = some (.int (a * b)) := by
  show pMul [.int a, .int b] = _
  unfold pMul
  simp only
  rw [if_pos h]
theorem q_fdiv (h : divOk b = true) : pr T .fdiv [.int a, .int b] = some (.int (a.fdiv b)) := by
  show ((if divOk b = true then some (a.fdiv b) else none : Option Int)).map D.int = _
  rw [if_pos h]
  rfl
theorem q_mod (h : b ≠ 0) : pr T .mod [.int a, .int b] = some (.int (a.fmod b)) := by
  show ((if b = 0 then none else some (a.fmod b) : Option Int)).map D.int = _
  rw [if_neg h]
  rfl
theorem q_pow (h : powOk a b = true) : pr T .pow [.int a, .int b] = some (.int (a ^ b.toNat)) := by
  show ((if powOk a b = true then some (a ^ b.toNat) else none : Option Int)).map D.int = _
  rw [if_pos h]
  rfl
theorem q_neg : pr T .neg [.int a] = some (.int (-a)) := rfl
theorem q_int : pr T .int [.int a] = some (.int a) := rfl
theorem q_lt : pr T .lt [.int a, .int b] = some (.bl (decide (a < b))) := rfl
theorem q_le : pr T .le [.int a, .int b] = some (.bl (decide (a ≤ b))) := rfl
theorem q_gt : pr T .gt [.int a, .int b] = some (.bl (decide (b < a))) := rfl
theorem q_ge : pr T .ge [.int a, .int b] = some (.bl (decide (b ≤ a))) := rfl
theorem eqD_int : eqD (.int a) (.int b) = some (decide (a = b)) := by
  show (if (SeqAt.shaped (.int a) && SeqAt.shaped (.int b)) = true then some (PyData.eqv (.int a) (.int b)) else none) = _
  rw [if_pos (by rfl), eqv_int]
theorem q_eq : pr T .eq [.int a, .int b] = some (.bl (decide (a = b))) := by
  show (eqD (.int a) (.int b)).map D.bl = _
  rw [eqD_int]
  rfl
theorem q_ne : pr T .ne [.int a, .int b] = some (.bl (!decide (a = b))) := by
  show (eqD (.int a) (.int b)).map (fun x => D.bl (!x)) = _
  rw [eqD_int]
  rfl
theorem q_lenL {o : Bool} : pr T .len [.lst o xs] = some (.int xs.length) := rfl
theorem q_lenT : pr T .len [.tup xs] = some (.int xs.length) := rfl
theorem q_idxT : pr T .idx [.tup xs, .int a] = L2.atI xs a := rfl
theorem q_idxL {o : Bool} : pr T .idx [.lst o xs, .int a] = L2.atI xs a := rfl
theorem q_list {d : D} : pr T .list [d] = (seqD d).map (.lst true) := rfl
theorem q_tuple {d : D} : pr T .tuple [d] = (seqD d).map .tup := rfl
theorem q_repr {d : D} : pr T .repr [d] = (reprD d).map .str := rfl
theorem q_not {d : D} : pr T .not [d] = (truth d).map fun b => .bl (!b) := rfl
theorem q_attr {d : D} {f : Str} : pr T (.attr f) [d] = pAttr T f [d] := rfl
theorem q_is {c d : D} : pr T .is [c, d] = (sameD c d).map .bl := rfl
theorem q_isnot {c d : D} : pr T .isnot [c, d] = (sameD c d).map fun x => .bl (!x) := rfl
theorem bd_ok {α β : Type} {m : Env → Out α} {f : α → Env → Out β} {ρ ρ1 : Env} {z : α} (h : m ρ = .ok z ρ1) : bd m f ρ = f z ρ1 := by
  unfold bd
  rw [h]
theorem bd_exc {α β : Type} {m : Env → Out α} {f : α → Env → Out β} {ρ ρ1 : Env} {z : D} (h : m ρ = .exc z ρ1) : bd m f ρ = .exc z ρ1 := by
  unfold bd
  rw [h]
theorem bd_eq {α β : Type} {m : Env → Out α} {f : α → Env → Out β} {ρ : Env} : bd m f ρ = match m ρ with
  | .ok a ρ' => f a ρ'
  | .exc e ρ' => .exc e ρ'
  | .stuck => .stuck := rfl
theorem runs_cons {C : Ctx} {s : CS} {r : CSs} {ρ ρ1 : Env} (h : PI.run C s ρ = .ok .nx ρ1) : runs C (.cons s r) ρ = runs C r ρ1 := by
  rw [runs]
  exact bd_ok h
theorem runs_ret {C : Ctx} {s : CS} {r : CSs} {ρ ρ1 : Env} {d : D} (h : PI.run C s ρ = .ok (.rt d) ρ1) : runs C (.cons s r) ρ = .ok (.rt d) ρ1 := by
  rw [runs]
  exact bd_ok h
theorem runs_exc {C : Ctx} {s : CS} {r : CSs} {ρ ρ1 : Env} {d : D} (h : PI.run C s ρ = .exc d ρ1) : runs C (.cons s r) ρ = .exc d ρ1 := by
  rw [runs]
  exact bd_exc h
theorem log2_62 {z : Int} (h : z.natAbs < 2 ^ 62) : z.natAbs.log2 < 62 := by
  by_cases e : z.natAbs = 0
  · rw [e]
    decide
  · exact (Nat.log2_lt e).mpr h
theorem mulOk_of (h1 : a.natAbs < 2 ^ 62) (h2 : b.natAbs < 2 ^ 62) : mulOk a b = true := by
  unfold mulOk
  have := log2_62 h1
  have := log2_62 h2
  exact decide_eq_true (by omega)
theorem divOk_of (h0 : b ≠ 0) (h2 : b.natAbs < 2 ^ 62) : divOk b = true := by
  unfold divOk
  have := log2_62 h2
  rw [Bool.and_eq_true]
  exact ⟨decide_eq_true h0, decide_eq_true (by omega)⟩
end
end PI
/-! PK, part b: how long a text of a value is at most; loops; repr. -/
namespace PI
open PySem
def GoodS (x : Str) : Prop := ∀ c ∈ x.cps.toList, c < 1114112
theorem good_app {a b : Str} (h1 : GoodS a) (h2 : GoodS b) : GoodS (a ++ b) := fun c h => (PyProof.Rows.mem_cps_append.mp h).elim (h1 c) (h2 c)
theorem char_lt (c : Char) : c.toNat < 1114112 := by
  have h : c.val.toNat < 0xd800 ∨ (0xdfff < c.val.toNat ∧ c.val.toNat < 0x110000) := c.valid
  show c.val.toNat < _
  omega
theorem good_of (s : String) : GoodS (Str.ofString s) := fun c h => by
  rw [PyProof.Rows.signs_ofString] at h
  obtain ⟨d, _, rfl⟩ := List.mem_map.mp h
  exact char_lt d
theorem good_hex {w c y : Nat} (h : y ∈ (let d := (Nat.toDigits 16 c).map Char.toNat; List.replicate (w - d.length) 48 ++ d)) : y < 1114112 := by
  rcases List.mem_append.mp h with h | h
  · rw [(List.mem_replicate.mp h).2]
    decide
  · obtain ⟨d, _, rfl⟩ := List.mem_map.mp h
    exact char_lt d
theorem good_char {q c y : Nat} (hc : c < 1114112) (h : y ∈ PySem.Builtin.Str.reprChar q c) : y < 1114112 := by
  unfold PySem.Builtin.Str.reprChar at h
  have small : ∀ {l : List Nat}, l.all (· < 1114112) = true → y ∈ l → y < 1114112 := fun hl hy => of_decide_eq_true (List.all_eq_true.mp hl y hy)
  simp only at h
  split at h
  · rcases List.mem_cons.mp h with h | h
    · rw [h]; decide
    · rw [List.mem_singleton.mp h]; exact hc
  split at h
  · exact small (by decide) h
  split at h
  · exact small (by decide) h
  split at h
  · exact small (by decide) h
  split at h
  · rw [List.mem_singleton.mp h]; exact hc
  split at h
  · rcases List.mem_append.mp h with h | h
    · exact small (by decide) h
    · exact good_hex h
  split at h
  · rcases List.mem_append.mp h with h | h
    · exact small (by decide) h
    · exact good_hex h
  · rcases List.mem_append.mp h with h | h
    · exact small (by decide) h
    · exact good_hex h
theorem good_fold (q : Nat) : ∀ (l : List Nat) (acc : Array Nat), (∀ c ∈ l, c < 1114112) → (∀ c ∈ acc.toList, c < 1114112) → ∀ c ∈ (l.foldl (fun out c => out ++ (PySem.Builtin.Str.reprChar q c).toArray) acc).toList, c < 1114112
  | [], acc, _, h => h
  | c :: r, acc, hl, h => by
    rw [List.foldl_cons]
    refine good_fold q r _ (fun d hd => hl d (List.mem_cons_of_mem _ hd)) fun y hy => ?_
    rw [Array.toList_append, List.mem_append] at hy
    exact hy.elim (h y) fun z => good_char (hl c List.mem_cons_self) (by simpa using z)
theorem good_repr {x : Str} (h : GoodS x) : GoodS (reprText x) := fun c hc => by
  have q : PySem.reprQuote x < 1114112 := by
    unfold PySem.reprQuote
    split <;> decide
  unfold reprText at hc
  rw [Array.toList_push, List.mem_append] at hc
  rcases hc with hc | hc
  · rw [← Array.foldl_toList] at hc
    refine good_fold _ _ _ h (fun y hy => ?_) c hc
    have : y = reprQuote x := by simpa using hy
    rw [this]
    exact q
  · rw [List.mem_singleton.mp hc]
    exact q
mutual
/-- at most so long is its text -/
def wid : PyData → Nat
  | .none => 4
  | .bool _ => 5
  | .int _ => 1921
  | .str x => 10 * x.length + 2
  | .list xs => widAll xs + 2
  | .tuple xs => widAll xs + 3
  | .dict kvs => widKv kvs + 2
def widAll : List PyData → Nat
  | [] => 0
  | x :: xs => wid x + 2 + widAll xs
def widKv : List (PyData × PyData) → Nat
  | [] => 0
  | (k, v) :: r => wid k + 2 + wid v + 2 + widKv r
end
mutual
def goodP : PyData → Bool
  | .str x => x.cps.toList.all (· < 1114112)
  | .list xs | .tuple xs => goodPs xs
  | .dict kvs => goodKv kvs
  | _ => true
def goodPs : List PyData → Bool
  | [] => true
  | x :: xs => goodP x && goodPs xs
def goodKv : List (PyData × PyData) → Bool
  | [] => true
  | (k, v) :: r => goodP k && (goodP v && goodKv r)
end
theorem piled_one {t : Str} {ts : List Str} : piled (t :: ts) = t.length + 2 + piled ts := by simp [piled]
theorem len_of (s : String) : (Str.ofString s).length = s.length := PySem.ofString_length s
theorem textFrom_le : ∀ (ts : List Str) (k : Nat) (acc : Str), (textFrom k acc ts).length ≤ acc.length + piled ts
  | [], k, acc => by show acc.length ≤ _; omega
  | t :: r, k, acc => by
    have ih := textFrom_le r (k + 1) (acc ++ (if k > 0 then ", " else "" : String) ++ t)
    show (textFrom (k + 1) (acc ++ (if k > 0 then ", " else "" : String) ++ t) r).length ≤ _
    rw [strLen_append, strLen_append] at ih
    have e : (Str.ofString (if k > 0 then ", " else "" : String)).length ≤ 2 := by
      split <;> decide
    have e' : ((if k > 0 then ", " else "" : String) : Str).length ≤ 2 := e
    rw [piled_one]
    omega
theorem textFrom_good : ∀ (ts : List Str) (k : Nat) (acc : Str), GoodS acc → (∀ t ∈ ts, GoodS t) → GoodS (textFrom k acc ts)
  | [], k, acc, h, _ => h
  | t :: r, k, acc, h, ht => textFrom_good r (k + 1) _ (good_app (good_app h (good_of _)) (ht t List.mem_cons_self)) fun u hu => ht u (List.mem_cons_of_mem _ hu)
theorem join_le : ∀ (ts : List Str), (Str.join ", " ts).length ≤ piled ts
  | [] => Nat.zero_le _
  | [x] => by
    show x.length ≤ _
    rw [piled_one]
    omega
  | x :: y :: r => by
    have ih := join_le (y :: r)
    show (x ++ ", " ++ Str.join ", " (y :: r)).length ≤ _
    rw [strLen_append, strLen_append, piled_one]
    have e : ((", " : String) : Str).length = 2 := by decide
    omega
theorem join_good : ∀ (ts : List Str), (∀ t ∈ ts, GoodS t) → GoodS (Str.join ", " ts)
  | [], _ => fun c h => by cases h
  | [x], h => h x List.mem_cons_self
  | x :: y :: r, h => good_app (good_app (h x List.mem_cons_self) (good_of _)) (join_good (y :: r) fun t ht => h t (List.mem_cons_of_mem _ ht))
mutual
theorem wid_ok : ∀ (p : PyData), p.showable = true → goodP p = true → p.shown.length ≤ wid p ∧ GoodS p.shown
  | .none, _, _ => ⟨by decide, good_of _⟩
  | .bool b, _, _ => by cases b <;> exact ⟨by decide, good_of _⟩
  | .int i, h, _ => ⟨PyProof.Rows.int_text_len_1921 (by simpa [PyData.showable] using h), good_of _⟩
  | .str x, _, g => by
    have g' : GoodS x := fun c hc => of_decide_eq_true (List.all_eq_true.mp g c hc)
    exact ⟨StrLaws.reprText_len x (fun c hc => Nat.lt_trans (g' c hc) (by decide)), good_repr g'⟩
  | .list xs, h, g => by
    obtain ⟨h1, h2⟩ := wids_ok xs (by simpa [PyData.showable] using h) g
    have z := textFrom_le (PyData.shownAll xs) 0 "["
    refine ⟨?_, good_app (textFrom_good _ _ _ (good_of _) h2) (good_of _)⟩
    show (textFrom 0 "[" (PyData.shownAll xs) ++ "]").length ≤ widAll xs + 2
    rw [strLen_append]
    have e1 : (("[" : String) : Str).length = 1 := by decide
    have e2 : (("]" : String) : Str).length = 1 := by decide
    omega
  | .tuple xs, h, g => by
    obtain ⟨h1, h2⟩ := wids_ok xs (by simpa [PyData.showable] using h) g
    have z := join_le (PyData.shownAll xs)
    refine ⟨?_, good_app (good_app (good_of _) (join_good _ h2)) (good_of _)⟩
    show (("(" : Str) ++ Str.join ", " (PyData.shownAll xs) ++ (if (PyData.shownAll xs).length == 1 then ",)" else ")" : String)).length ≤ widAll xs + 3
    rw [strLen_append, strLen_append]
    have e1 : (("(" : String) : Str).length = 1 := by decide
    have e2 : ((if (PyData.shownAll xs).length == 1 then ",)" else ")" : String) : Str).length ≤ 2 := by split <;> decide
    omega
  | .dict kvs, h, g => by
    obtain ⟨h1, h2⟩ := widk_ok kvs (by simpa [PyData.showable] using h) g
    have z := join_le (PyData.shownKv kvs)
    refine ⟨?_, good_app (good_app (good_of _) (join_good _ h2)) (good_of _)⟩
    show (("{" : Str) ++ Str.join ", " (PyData.shownKv kvs) ++ "}").length ≤ widKv kvs + 2
    rw [strLen_append, strLen_append]
    have e1 : (("{" : String) : Str).length = 1 := by decide
    have e2 : (("}" : String) : Str).length = 1 := by decide
    omega
theorem wids_ok : ∀ (ps : List PyData), PyData.showableAll ps = true → goodPs ps = true → piled (PyData.shownAll ps) ≤ widAll ps ∧ ∀ t ∈ PyData.shownAll ps, GoodS t
  | [], _, _ => ⟨Nat.le_refl _, fun t h => by cases h⟩
  | p :: ps, h, g => by
    have h' : p.showable = true ∧ PyData.showableAll ps = true := by simpa [PyData.showableAll] using h
    obtain ⟨g1, g2⟩ := Bool.and_eq_true_iff.mp g
    obtain ⟨a1, a2⟩ := wid_ok p h'.1 g1
    obtain ⟨b1, b2⟩ := wids_ok ps h'.2 g2
    refine ⟨?_, fun t ht => ?_⟩
    · show piled (p.shown :: PyData.shownAll ps) ≤ wid p + 2 + widAll ps
      rw [piled_one]
      omega
    · rcases List.mem_cons.mp (show t ∈ p.shown :: PyData.shownAll ps from ht) with e | e
      · rw [e]; exact a2
      · exact b2 t e
theorem widk_ok : ∀ (ps : List (PyData × PyData)), PyData.showableKv ps = true → goodKv ps = true → piled (PyData.shownKv ps) ≤ widKv ps ∧ ∀ t ∈ PyData.shownKv ps, GoodS t
  | [], _, _ => ⟨Nat.le_refl _, fun t h => by cases h⟩
  | (k, v) :: ps, h, g => by
    have h' : (k.showable = true ∧ v.showable = true) ∧ PyData.showableKv ps = true := by simpa [PyData.showableKv] using h
    obtain ⟨g1, g⟩ := Bool.and_eq_true_iff.mp g
    obtain ⟨g2, g3⟩ := Bool.and_eq_true_iff.mp g
    obtain ⟨a1, a2⟩ := wid_ok k h'.1.1 g1
    obtain ⟨c1, c2⟩ := wid_ok v h'.1.2 g2
    obtain ⟨b1, b2⟩ := widk_ok ps h'.2 g3
    refine ⟨?_, fun t ht => ?_⟩
    · show piled ((k.shown ++ ": " ++ v.shown) :: PyData.shownKv ps) ≤ wid k + 2 + wid v + 2 + widKv ps
      rw [piled_one, strLen_append, strLen_append]
      have e : ((": " : String) : Str).length = 2 := by decide
      omega
    · rcases List.mem_cons.mp (show t ∈ (k.shown ++ ": " ++ v.shown) :: PyData.shownKv ps from ht) with e | e
      · rw [e]; exact good_app (good_app a2 (good_of _)) c2
      · exact b2 t e
end
/-- a value whose text is told -/
structure Shw (d : D) (p : PyData) (n m : Nat) : Prop where
  py : d.py = some p
  sh : p.showable = true
  gd : goodP p = true
  wd : wid p ≤ n
  dp : p.depth ≤ m
theorem Shw.repr {d : D} {p : PyData} {n m : Nat} (h : Shw d p n m) (hn : n ≤ 16777216) (hm : m ≤ 64) : reprD d = some p.shown := by
  obtain ⟨h1, h2⟩ := wid_ok p h.sh h.gd
  have a := h.wd
  have b := h.dp
  unfold reprD
  rw [h.py]
  simp only
  rw [if_pos]
  rw [h.sh, Bool.true_and, Bool.and_eq_true]
  exact ⟨decide_eq_true (by omega), decide_eq_true (by omega)⟩
/-- the text itself as a value -/
theorem Shw.text {d : D} {p : PyData} {n m : Nat} (h : Shw d p n m) : Shw (.str p.shown) (.str p.shown) (10 * n + 2) 0 := by
  obtain ⟨h1, h2⟩ := wid_ok p h.sh h.gd
  have a := h.wd
  refine ⟨rfl, rfl, List.all_eq_true.mpr fun c hc => decide_eq_true (h2 c hc), ?_, Nat.le_refl _⟩
  show 10 * p.shown.length + 2 ≤ 10 * n + 2
  omega
theorem Shw.tup1 {a : D} {p : PyData} {n m : Nat} (h : Shw a p n m) : Shw (.tup [a]) (.tuple [p]) (n + 5) (m + 1) := by
  obtain ⟨h1, h2, h3, h4, h5⟩ := h
  refine ⟨?_, ?_, ?_, ?_, ?_⟩
  · simp [D.py, D.pys, h1]
  · simp [PyData.showable, PyData.showableAll, h2]
  · simp [goodP, goodPs, h3]
  · show wid p + 2 + 0 + 3 ≤ _
    omega
  · show max p.depth 0 + 1 ≤ _
    omega
theorem Shw.tup2 {a b : D} {p q : PyData} {n m n' m' : Nat} (h : Shw a p n m) (k : Shw b q n' m') : Shw (.tup [a, b]) (.tuple [p, q]) (n + n' + 7) (max m m' + 1) := by
  obtain ⟨h1, h2, h3, h4, h5⟩ := h
  obtain ⟨k1, k2, k3, k4, k5⟩ := k
  refine ⟨?_, ?_, ?_, ?_, ?_⟩
  · simp [D.py, D.pys, h1, k1]
  · simp [PyData.showable, PyData.showableAll, h2, k2]
  · simp [goodP, goodPs, h3, k3]
  · show wid p + 2 + (wid q + 2 + 0) + 3 ≤ _
    omega
  · show max p.depth (max q.depth 0) + 1 ≤ _
    omega
theorem Shw.tup3 {a b c : D} {p q r : PyData} {n m n' m' n2 m2 : Nat} (h : Shw a p n m) (k : Shw b q n' m') (l : Shw c r n2 m2) : Shw (.tup [a, b, c]) (.tuple [p, q, r]) (n + n' + n2 + 9) (max m (max m' m2) + 1) := by
  obtain ⟨h1, h2, h3, h4, h5⟩ := h
  obtain ⟨k1, k2, k3, k4, k5⟩ := k
  obtain ⟨l1, l2, l3, l4, l5⟩ := l
  refine ⟨?_, ?_, ?_, ?_, ?_⟩
  · simp [D.py, D.pys, h1, k1, l1]
  · simp [PyData.showable, PyData.showableAll, h2, k2, l2]
  · simp [goodP, goodPs, h3, k3, l3]
  · show wid p + 2 + (wid q + 2 + (wid r + 2 + 0)) + 3 ≤ _
    omega
  · show max p.depth (max q.depth (max r.depth 0)) + 1 ≤ _
    omega
theorem Shw.tup4 {a b c d : D} {p q r s : PyData} {n m n' m' n2 m2 n3 m3 : Nat} (h : Shw a p n m) (k : Shw b q n' m') (l : Shw c r n2 m2) (o : Shw d s n3 m3) : Shw (.tup [a, b, c, d]) (.tuple [p, q, r, s]) (n + n' + n2 + n3 + 11) (max m (max m' (max m2 m3)) + 1) := by
  obtain ⟨h1, h2, h3, h4, h5⟩ := h
  obtain ⟨k1, k2, k3, k4, k5⟩ := k
  obtain ⟨l1, l2, l3, l4, l5⟩ := l
  obtain ⟨o1, o2, o3, o4, o5⟩ := o
  refine ⟨?_, ?_, ?_, ?_, ?_⟩
  · simp [D.py, D.pys, h1, k1, l1, o1]
  · simp [PyData.showable, PyData.showableAll, h2, k2, l2, o2]
  · simp [goodP, goodPs, h3, k3, l3, o3]
  · show wid p + 2 + (wid q + 2 + (wid r + 2 + (wid s + 2 + 0))) + 3 ≤ _
    omega
  · show max p.depth (max q.depth (max r.depth (max s.depth 0))) + 1 ≤ _
    omega
theorem eqD_same {s : Str} (h : GoodS s) : eqD (.str s) (.str s) = some true := by
  have e : SeqAt.shaped (.str s) = true := by
    unfold SeqAt.shaped
    rw [Bool.and_eq_true]
    refine ⟨?_, by rfl⟩
    show PyData.strOk s = true
    unfold PyData.strOk
    rw [← Array.all_toList]
    exact List.all_eq_true.mpr fun c hc => decide_eq_true (h c hc)
  show (if (SeqAt.shaped (.str s) && SeqAt.shaped (.str s)) = true then some (PyData.eqv (.str s) (.str s)) else none) = _
  rw [e, if_pos (by rfl)]
  have : PyData.eqv (.str s) (.str s) = true := by
    unfold PyData.eqv
    simp
  rw [this]
theorem ne_text {T : ClsT} {s : Str} (h : GoodS s) : pr T .ne [.str s, .str s] = some (.bl false) := by
  show (eqD (.str s) (.str s)).map (fun x => D.bl (!x)) = _
  rw [eqD_same h]
  rfl
theorem eq_text {T : ClsT} {s : Str} (h : GoodS s) : pr T .eq [.str s, .str s] = some (.bl true) := by
  show (eqD (.str s) (.str s)).map D.bl = _
  rw [eqD_same h]
  rfl
theorem run_for {C : Ctx} {tg : Tg} {w : Wk} {src : CEs} {b : CSs} {ρ ρ1 ρ' : Env} {as : List Ar} {ds : List D} (h1 : evs C src ρ = .ok as ρ1) (h2 : (ard ρ1 as).bind (walkD w) = some ds) (h3 : forL (sameB ρ1 as) (asgT tg) (runs C b) ds ρ1 = .ok .nx ρ') : PI.run C (.for tg w src b) ρ = .ok .nx ρ' := by
  rw [PI.run, bd_ok h1]
  simp only [h2]
  exact h3
/-- a loop that keeps I to its end -/
theorem forL_inv {ok : Env → Bool} {asg : D → Env → Option Env} {body : Env → Out Fl} (I : List D → Env → Prop) (h0 : ∀ l ρ, I l ρ → ok ρ = true) (step : ∀ d l ρ, I (d :: l) ρ → ∃ ρ1 ρ2, asg d ρ = some ρ1 ∧ (body ρ1 = .ok .nx ρ2 ∨ body ρ1 = .ok .ct ρ2) ∧ I l ρ2) : ∀ l ρ, I l ρ → ∃ ρ', forL ok asg body l ρ = .ok .nx ρ' ∧ I [] ρ'
  | [], ρ, h => by
    refine ⟨ρ, ?_, h⟩
    unfold forL
    rw [if_pos (h0 _ _ h)]
  | d :: l, ρ, h => by
    obtain ⟨ρ1, ρ2, e1, e2, h2⟩ := step d l ρ h
    obtain ⟨ρ', e3, h3⟩ := forL_inv I h0 step l ρ2 h2
    refine ⟨ρ', ?_, h3⟩
    unfold forL
    rw [if_pos (h0 _ _ h)]
    simp only [e1]
    rcases e2 with e2 | e2 <;> simp only [e2] <;> exact e3
end PI
namespace K01
open PySem PI
def top (i : Nat) : Stmt := PySem.Challenge.pw_rootfigures_k01_errors.main.body.getD i (.Pass ⟨0, 0, 0, 0⟩)
def inner : Stmt → Nat → Stmt
  | .ClassDef _ _ _ b _ _ _ _ _ _ _, j => b.getD j (.Pass ⟨0, 0, 0, 0⟩)
  | s, _ => s
def pArgs : Stmt → Arguments
  | .FunctionDef _ a _ _ _ _ _ _ _ _ => a
  | _ => default
def pBody : Stmt → List Stmt
  | .FunctionDef _ _ b _ _ _ _ _ _ _ => b
  | _ => []
def pScope : Stmt → Scope
  | .FunctionDef _ _ _ _ _ _ s _ _ _ => s
  | _ => default
def c0 : CSs := (.cons (.asg (.nm 1) (.int 0)) (.cons (.for (.nm 2) .seq (.cons (.ex (.var 0)) .nil) (.cons (.asg (.nm 1) (.pr .mod (.cons (.ex (.pr .int (.cons (.ex (.pr .add (.cons (.ex (.pr .mul (.cons (.ex (.var 1)) (.cons (.ex (.int 47)) .nil)))) (.cons (.ex (.var 2)) .nil)))) .nil))) (.cons (.ex (.int 1000000007)) .nil)))) (.frz 1 .nil))) (.cons (.ret (.dict ["cells", "at", "digits", "count", "fold"] (.cons (.ex (.pr .list (.cons (.ex (.var 0)) .nil))) (.cons (.ex (.int 0)) (.cons (.ex (.int 0)) (.cons (.ex (.int 0)) (.cons (.ex (.var 1)) .nil))))))) .nil)))
def d0 : Dn := ⟨(("_law_pen" : PySem.Str), none), "_law_pen", "_law_pen", pArgs (top 20), pBody (top 20), pScope (top 20), ["script"], ["script", "fold", "cell"], ⟨1, 3, [], c0⟩, false⟩
def c1 : CSs := (.cons (.setI 0 (.str "count") (.pr .add (.cons (.ex (.pr .idx (.cons (.bor 0) (.cons (.ex (.str "count")) .nil)))) (.cons (.ex (.int 1)) .nil)))) (.cons (.iff (.and (.pr .eq (.cons (.ex (.pr .idx (.cons (.bor 0) (.cons (.ex (.str "digits")) .nil)))) (.cons (.ex (.int 0)) .nil))) (.pr .lt (.cons (.ex (.pr .idx (.cons (.bor 0) (.cons (.ex (.str "at")) .nil)))) (.cons (.ex (.pr .len (.cons (.ex (.pr .idx (.cons (.bor 0) (.cons (.ex (.str "cells")) .nil)))) .nil))) .nil)))) (.cons (.asg (.nm 3) (.pr .idx (.cons (.ex (.pr .idx (.cons (.bor 0) (.cons (.ex (.str "cells")) .nil)))) (.cons (.ex (.pr .idx (.cons (.bor 0) (.cons (.ex (.str "at")) .nil)))) .nil)))) (.frz 3 (.cons (.setI 0 (.str "at") (.pr .add (.cons (.ex (.pr .idx (.cons (.bor 0) (.cons (.ex (.str "at")) .nil)))) (.cons (.ex (.int 1)) .nil)))) (.cons (.iff (.pr .ge (.cons (.ex (.var 3)) (.cons (.ex (.pr .pow (.cons (.ex (.int 10)) (.cons (.ex (.int 18)) .nil)))) .nil))) (.cons (.setI 0 (.str "digits") (.pr .sub (.cons (.ex (.var 3)) (.cons (.ex (.pr .pow (.cons (.ex (.int 10)) (.cons (.ex (.int 18)) .nil)))) .nil)))) .nil) (.cons (.setI 0 (.str "fold") (.pr .mod (.cons (.ex (.pr .int (.cons (.ex (.pr .add (.cons (.ex (.pr .mul (.cons (.ex (.pr .idx (.cons (.bor 0) (.cons (.ex (.str "fold")) .nil)))) (.cons (.ex (.int 69069)) .nil)))) (.cons (.ex (.var 3)) .nil)))) .nil))) (.cons (.ex (.int 2147483587)) .nil)))) .nil)) .nil)))) .nil) (.cons (.iff (.pr .gt (.cons (.ex (.pr .idx (.cons (.bor 0) (.cons (.ex (.str "digits")) .nil)))) (.cons (.ex (.int 0)) .nil))) (.cons (.asg (.nm 4) (.pr .mod (.cons (.ex (.pr .int (.cons (.ex (.pr .idx (.cons (.bor 0) (.cons (.ex (.str "digits")) .nil)))) .nil))) (.cons (.ex (.var 1)) .nil)))) (.frz 4 (.cons (.setI 0 (.str "digits") (.pr .fdiv (.cons (.ex (.pr .idx (.cons (.bor 0) (.cons (.ex (.str "digits")) .nil)))) (.cons (.ex (.var 1)) .nil)))) (.cons (.ret (.var 4)) .nil)))) .nil) (.cons (.asg (.nm 2) (.pr .mod (.cons (.ex (.pr .int (.cons (.ex (.pr .add (.cons (.ex (.pr .add (.cons (.ex (.pr .mul (.cons (.ex (.pr .idx (.cons (.bor 0) (.cons (.ex (.str "fold")) .nil)))) (.cons (.ex (.int 48271)) .nil)))) (.cons (.ex (.pr .mul (.cons (.ex (.pr .idx (.cons (.bor 0) (.cons (.ex (.str "count")) .nil)))) (.cons (.ex (.int 7919)) .nil)))) .nil)))) (.cons (.ex (.int 13)) .nil)))) .nil))) (.cons (.ex (.int 2147483647)) .nil)))) (.frz 2 (.cons (.asg (.nm 2) (.pr .mod (.cons (.ex (.pr .int (.cons (.ex (.pr .add (.cons (.ex (.pr .add (.cons (.ex (.pr .mul (.cons (.ex (.var 2)) (.cons (.ex (.var 2)) .nil)))) (.cons (.ex (.pr .mul (.cons (.ex (.int 31)) (.cons (.ex (.var 2)) .nil)))) .nil)))) (.cons (.ex (.pr .idx (.cons (.bor 0) (.cons (.ex (.str "count")) .nil)))) .nil)))) .nil))) (.cons (.ex (.int 2147483629)) .nil)))) (.frz 2 (.cons (.setI 0 (.str "fold") (.pr .mod (.cons (.ex (.pr .int (.cons (.ex (.pr .add (.cons (.ex (.pr .mul (.cons (.ex (.var 2)) (.cons (.ex (.int 16807)) .nil)))) (.cons (.ex (.int 7)) .nil)))) .nil))) (.cons (.ex (.int 2147483647)) .nil)))) (.cons (.ret (.pr .mod (.cons (.ex (.pr .int (.cons (.ex (.pr .fdiv (.cons (.ex (.var 2)) (.cons (.ex (.int 64)) .nil)))) .nil))) (.cons (.ex (.var 1)) .nil)))) .nil)))))))))
def d1 : Dn := ⟨(("_law_draw" : PySem.Str), none), "_law_draw", "_law_draw", pArgs (top 21), pBody (top 21), pScope (top 21), ["pen", "many"], ["pen", "many", "blend", "cell", "digit"], ⟨2, 5, [0], c1⟩, false⟩
def c2 : CSs := (.cons (.ret (.pr .idx (.cons (.ex (.var 1)) (.cons (.ex (.call 1 (.cons (.io 0) (.cons (.ex (.pr .len (.cons (.ex (.var 1)) .nil))) .nil)))) .nil)))) .nil)
def d2 : Dn := ⟨(("_law_pick" : PySem.Str), none), "_law_pick", "_law_pick", pArgs (top 22), pBody (top 22), pScope (top 22), ["pen", "some"], ["pen", "some"], ⟨2, 2, [0], c2⟩, false⟩
def c3 : CSs := (.cons (.asg (.nm 1) (.lst .nil)) (.cons (.iff (.pr (.isi [.cls 1]) (.cons (.ex (.var 0)) .nil)) (.cons (.app 1 (.tup (.cons (.ex (.str "number")) (.cons (.ex (.pr (.attr "what") (.cons (.ex (.var 0)) .nil))) (.cons (.ex (.pr .repr (.cons (.ex (.pr (.attr "number") (.cons (.ex (.var 0)) .nil))) .nil))) .nil))))) .nil) .nil) (.cons (.iff (.pr (.isi [.cls 2]) (.cons (.ex (.var 0)) .nil)) (.cons (.app 1 (.tup (.cons (.ex (.str "row")) (.cons (.ex (.pr (.attr "what") (.cons (.ex (.var 0)) .nil))) (.cons (.ex (.pr .repr (.cons (.ex (.pr (.attr "row") (.cons (.ex (.var 0)) .nil))) .nil))) .nil))))) .nil) .nil) (.cons (.iff (.pr (.isi [.cls 3]) (.cons (.ex (.var 0)) .nil)) (.cons (.app 1 (.tup (.cons (.ex (.str "table")) (.cons (.ex (.pr (.attr "what") (.cons (.ex (.var 0)) .nil))) .nil)))) .nil) .nil) (.cons (.iff (.pr (.isi [.cls 4]) (.cons (.ex (.var 0)) .nil)) (.cons (.app 1 (.tup (.cons (.ex (.str "poly")) (.cons (.ex (.pr (.attr "what") (.cons (.ex (.var 0)) .nil))) .nil)))) .nil) .nil) (.cons (.iff (.pr (.isi [.cls 5]) (.cons (.ex (.var 0)) .nil)) (.cons (.app 1 (.tup (.cons (.ex (.str "base")) (.cons (.ex (.pr (.attr "what") (.cons (.ex (.var 0)) .nil))) .nil)))) .nil) .nil) (.cons (.iff (.pr (.isi [.cls 6]) (.cons (.ex (.var 0)) .nil)) (.cons (.app 1 (.tup (.cons (.ex (.str "book")) (.cons (.ex (.pr (.attr "what") (.cons (.ex (.var 0)) .nil))) .nil)))) .nil) .nil) (.cons (.iff (.pr (.isi [.cls 7]) (.cons (.ex (.var 0)) .nil)) (.cons (.app 1 (.tup (.cons (.ex (.str "badname")) (.cons (.ex (.pr .repr (.cons (.ex (.pr (.attr "name") (.cons (.ex (.var 0)) .nil))) .nil))) .nil)))) .nil) .nil) (.cons (.iff (.pr (.isi [.cls 8]) (.cons (.ex (.var 0)) .nil)) (.cons (.app 1 (.tup (.cons (.ex (.str "text")) (.cons (.ex (.pr (.attr "line") (.cons (.ex (.var 0)) .nil))) (.cons (.ex (.pr (.attr "word") (.cons (.ex (.var 0)) .nil))) .nil))))) .nil) .nil) (.cons (.iff (.pr (.isi [.cls 9]) (.cons (.ex (.var 0)) .nil)) (.cons (.app 1 (.tup (.cons (.ex (.str "place")) (.cons (.ex (.pr (.attr "what") (.cons (.ex (.var 0)) .nil))) (.cons (.ex (.pr .repr (.cons (.ex (.pr (.attr "index") (.cons (.ex (.var 0)) .nil))) .nil))) .nil))))) .nil) .nil) (.cons (.ret (.pr .add (.cons (.bor 1) (.cons (.ex (.call 4 (.cons (.ex (.var 0)) .nil))) .nil)))) .nil)))))))))))
def d3 : Dn := ⟨(("_law_kinds" : PySem.Str), none), "_law_kinds", "_law_kinds", pArgs (top 23), pBody (top 23), pScope (top 23), ["e"], ["e", "found"], ⟨1, 2, [], c3⟩, true⟩
def c4 : CSs := (.cons (.asg (.nm 1) (.lst .nil)) (.cons (.iff (.pr (.isi [.cls 10]) (.cons (.ex (.var 0)) .nil)) (.cons (.app 1 (.tup (.cons (.ex (.str "noname")) (.cons (.ex (.pr .repr (.cons (.ex (.pr (.attr "name") (.cons (.ex (.var 0)) .nil))) .nil))) .nil)))) .nil) .nil) (.cons (.iff (.pr (.isi [.cls 11]) (.cons (.ex (.var 0)) .nil)) (.cons (.app 1 (.tup (.cons (.ex (.str "taken")) (.cons (.ex (.pr .repr (.cons (.ex (.pr (.attr "name") (.cons (.ex (.var 0)) .nil))) .nil))) .nil)))) .nil) .nil) (.cons (.iff (.pr (.isi [.cls 12]) (.cons (.ex (.var 0)) .nil)) (.cons (.app 1 (.tup (.cons (.ex (.str "unlike")) (.cons (.ex (.pr (.attr "what") (.cons (.ex (.var 0)) .nil))) .nil)))) .nil) .nil) (.cons (.iff (.pr (.isi [.cls 13]) (.cons (.ex (.var 0)) .nil)) (.cons (.app 1 (.tup (.cons (.ex (.str "notthere")) (.cons (.ex (.pr (.attr "paper") (.cons (.ex (.var 0)) .nil))) .nil)))) .nil) .nil) (.cons (.iff (.pr (.isi [.cls 14]) (.cons (.ex (.var 0)) .nil)) (.cons (.app 1 (.tup (.cons (.ex (.str "many")) (.cons (.ex (.pr (.attr "what") (.cons (.ex (.var 0)) .nil))) (.cons (.ex (.pr (.attr "many") (.cons (.ex (.var 0)) .nil))) (.cons (.ex (.pr (.attr "limit") (.cons (.ex (.var 0)) .nil))) .nil)))))) .nil) .nil) (.cons (.iff (.pr (.isi [.cls 15]) (.cons (.ex (.var 0)) .nil)) (.cons (.app 1 (.tup (.cons (.ex (.str "kept")) (.cons (.ex (.pr (.attr "promise") (.cons (.ex (.var 0)) .nil))) (.cons (.ex (.pr (.attr "witness") (.cons (.ex (.var 0)) .nil))) .nil))))) .nil) .nil) (.cons (.iff (.pr (.isi [.cls 16]) (.cons (.ex (.var 0)) .nil)) (.cons (.app 1 (.tup (.cons (.ex (.str "undo")) .nil))) .nil) .nil) (.cons (.iff (.pr (.isi [.cls 17]) (.cons (.ex (.var 0)) .nil)) (.cons (.app 1 (.tup (.cons (.ex (.str "redo")) .nil))) .nil) .nil) (.cons (.retS 1) .nil))))))))))
def d4 : Dn := ⟨(("_law_more_kinds" : PySem.Str), none), "_law_more_kinds", "_law_more_kinds", pArgs (top 24), pBody (top 24), pScope (top 24), ["e"], ["e", "found"], ⟨1, 2, [], c4⟩, true⟩
def c5 : CSs := (.cons (.asg (.nm 1) (.call 1 (.cons (.io 0) (.cons (.ex (.int 8)) .nil)))) (.frz 1 (.cons (.iff (.pr .eq (.cons (.ex (.var 1)) (.cons (.ex (.int 0)) .nil))) (.cons (.ret (.lst (.cons (.ex (.call 1 (.cons (.io 0) (.cons (.ex (.int 100)) .nil)))) (.cons (.ex (.lst .nil)) .nil)))) .nil) .nil) (.cons (.iff (.pr .eq (.cons (.ex (.var 1)) (.cons (.ex (.int 1)) .nil))) (.cons (.ret (.tup (.cons (.ex (.str "a")) (.cons (.ex (.tup (.cons (.ex (.call 1 (.cons (.io 0) (.cons (.ex (.pr .pow (.cons (.ex (.int 10)) (.cons (.ex (.int 6)) .nil)))) .nil)))) .nil))) .nil)))) .nil) .nil) (.cons (.ret (.call 2 (.cons (.io 0) (.cons (.ex (.lst (.cons (.ex .non) (.cons (.ex (.bl true)) (.cons (.ex (.bl false)) (.cons (.ex (.int 0)) (.cons (.ex (.pr .neg (.cons (.ex (.int 1)) .nil))) (.cons (.ex (.str "x")) (.cons (.ex (.str "")) (.cons (.ex (.pr .pow (.cons (.ex (.int 10)) (.cons (.ex (.int 40)) .nil)))) (.cons (.ex (.dict ["k"] (.cons (.ex (.int 1)) .nil))) .nil))))))))))) .nil)))) .nil)))))
def d5 : Dn := ⟨(("_law_any_field" : PySem.Str), none), "_law_any_field", "_law_any_field", pArgs (top 25), pBody (top 25), pScope (top 25), ["pen"], ["pen", "way"], ⟨1, 2, [0], c5⟩, false⟩
def c6 : CSs := (.cons (.iff (.pr .eq (.cons (.ex (.var 0)) (.cons (.ex (.int 0)) .nil))) (.cons (.raise 1 (.cons (.ex (.var 1)) (.cons (.ex (.var 2)) .nil))) .nil) .nil) (.cons (.iff (.pr .eq (.cons (.ex (.var 0)) (.cons (.ex (.int 1)) .nil))) (.cons (.raise 2 (.cons (.ex (.var 1)) (.cons (.ex (.var 2)) .nil))) .nil) .nil) (.cons (.iff (.pr .eq (.cons (.ex (.var 0)) (.cons (.ex (.int 2)) .nil))) (.cons (.raise 3 (.cons (.ex (.var 1)) .nil)) .nil) .nil) (.cons (.iff (.pr .eq (.cons (.ex (.var 0)) (.cons (.ex (.int 3)) .nil))) (.cons (.raise 4 (.cons (.ex (.var 1)) .nil)) .nil) .nil) (.cons (.iff (.pr .eq (.cons (.ex (.var 0)) (.cons (.ex (.int 4)) .nil))) (.cons (.raise 5 (.cons (.ex (.var 1)) .nil)) .nil) .nil) (.cons (.iff (.pr .eq (.cons (.ex (.var 0)) (.cons (.ex (.int 5)) .nil))) (.cons (.raise 6 (.cons (.ex (.var 1)) .nil)) .nil) .nil) (.cons (.iff (.pr .eq (.cons (.ex (.var 0)) (.cons (.ex (.int 6)) .nil))) (.cons (.raise 7 (.cons (.ex (.var 1)) .nil)) .nil) .nil) .nil)))))))
def d6 : Dn := ⟨(("_law_raised" : PySem.Str), none), "_law_raised", "_law_raised", pArgs (top 26), pBody (top 26), pScope (top 26), ["kind", "one", "two", "three"], ["kind", "one", "two", "three"], ⟨4, 4, [], c6⟩, false⟩
def c7 : CSs := (.cons (.iff (.pr .eq (.cons (.ex (.var 0)) (.cons (.ex (.int 7)) .nil))) (.cons (.raise 8 (.cons (.ex (.var 1)) (.cons (.ex (.var 2)) .nil))) .nil) .nil) (.cons (.iff (.pr .eq (.cons (.ex (.var 0)) (.cons (.ex (.int 8)) .nil))) (.cons (.raise 9 (.cons (.ex (.var 1)) (.cons (.ex (.var 2)) .nil))) .nil) .nil) (.cons (.iff (.pr .eq (.cons (.ex (.var 0)) (.cons (.ex (.int 9)) .nil))) (.cons (.raise 10 (.cons (.ex (.var 1)) .nil)) .nil) .nil) (.cons (.iff (.pr .eq (.cons (.ex (.var 0)) (.cons (.ex (.int 10)) .nil))) (.cons (.raise 11 (.cons (.ex (.var 1)) .nil)) .nil) .nil) (.cons (.iff (.pr .eq (.cons (.ex (.var 0)) (.cons (.ex (.int 11)) .nil))) (.cons (.raise 12 (.cons (.ex (.var 1)) .nil)) .nil) .nil) (.cons (.iff (.pr .eq (.cons (.ex (.var 0)) (.cons (.ex (.int 12)) .nil))) (.cons (.raise 13 (.cons (.ex (.var 1)) .nil)) .nil) .nil) (.cons (.iff (.pr .eq (.cons (.ex (.var 0)) (.cons (.ex (.int 13)) .nil))) (.cons (.raise 14 (.cons (.ex (.var 1)) (.cons (.ex (.var 2)) (.cons (.ex (.var 3)) .nil)))) .nil) .nil) .nil)))))))
def d7 : Dn := ⟨(("_law_raised_too" : PySem.Str), none), "_law_raised_too", "_law_raised_too", pArgs (top 27), pBody (top 27), pScope (top 27), ["kind", "one", "two", "three"], ["kind", "one", "two", "three"], ⟨4, 4, [], c7⟩, false⟩
def c8 : CSs := (.cons (.iff (.pr .eq (.cons (.ex (.var 0)) (.cons (.ex (.int 14)) .nil))) (.cons (.raise 15 (.cons (.ex (.var 1)) (.cons (.ex (.var 2)) .nil))) .nil) .nil) (.cons (.iff (.pr .eq (.cons (.ex (.var 0)) (.cons (.ex (.int 15)) .nil))) (.cons (.raise 16 .nil) .nil) .nil) (.cons (.iff (.pr .eq (.cons (.ex (.var 0)) (.cons (.ex (.int 16)) .nil))) (.cons (.raise 17 .nil) .nil) .nil) .nil)))
def d8 : Dn := ⟨(("_law_raised_last" : PySem.Str), none), "_law_raised_last", "_law_raised_last", pArgs (top 28), pBody (top 28), pScope (top 28), ["kind", "one", "two", "three"], ["kind", "one", "two", "three"], ⟨4, 4, [], c8⟩, false⟩
def c9 : CSs := (.cons (.asg (.nm 4) .non) (.cons (.tryE (.cons (.drop (.call 6 (.cons (.ex (.var 0)) (.cons (.ex (.var 1)) (.cons (.ex (.var 2)) (.cons (.ex (.var 3)) .nil)))))) (.cons (.drop (.call 7 (.cons (.ex (.var 0)) (.cons (.ex (.var 1)) (.cons (.ex (.var 2)) (.cons (.ex (.var 3)) .nil)))))) (.cons (.drop (.call 8 (.cons (.ex (.var 0)) (.cons (.ex (.var 1)) (.cons (.ex (.var 2)) (.cons (.ex (.var 3)) .nil)))))) .nil))) 0 5 (.cons (.iff (.pr (.isi [.valueError]) (.cons (.ex (.var 5)) .nil)) (.cons (.asg (.nm 4) (.call 3 (.cons (.ex (.var 5)) .nil))) (.frz 4 .nil)) .nil) .nil)) (.cons (.ret (.var 4)) .nil)))
def d9 : Dn := ⟨(("_law_told" : PySem.Str), none), "_law_told", "_law_told", pArgs (top 29), pBody (top 29), pScope (top 29), ["kind", "one", "two", "three"], ["kind", "one", "two", "three", "found", "e"], ⟨4, 6, [], c9⟩, false⟩
def c10 : CSs := (.cons (.asg (.nm 4) (.lst (.cons (.ex (.str "number")) (.cons (.ex (.str "row")) (.cons (.ex (.str "table")) (.cons (.ex (.str "poly")) (.cons (.ex (.str "base")) (.cons (.ex (.str "book")) (.cons (.ex (.str "badname")) (.cons (.ex (.str "text")) (.cons (.ex (.str "place")) .nil))))))))))) (.frz 4 (.cons (.asg (.nm 4) (.pr .add (.cons (.ex (.var 4)) (.cons (.ex (.lst (.cons (.ex (.str "noname")) (.cons (.ex (.str "taken")) (.cons (.ex (.str "unlike")) (.cons (.ex (.str "notthere")) (.cons (.ex (.str "many")) (.cons (.ex (.str "kept")) (.cons (.ex (.str "undo")) (.cons (.ex (.str "redo")) .nil)))))))))) .nil)))) (.frz 4 (.cons (.iff (.pr .isin (.cons (.ex (.var 0)) (.cons (.ex (.tup (.cons (.ex (.int 0)) (.cons (.ex (.int 1)) (.cons (.ex (.int 8)) .nil))))) .nil))) (.cons (.ret (.tup (.cons (.ex (.pr .idx (.cons (.ex (.var 4)) (.cons (.ex (.var 0)) .nil)))) (.cons (.ex (.var 1)) (.cons (.ex (.pr .repr (.cons (.ex (.var 2)) .nil))) .nil))))) .nil) .nil) (.cons (.iff (.pr .isin (.cons (.ex (.var 0)) (.cons (.ex (.tup (.cons (.ex (.int 2)) (.cons (.ex (.int 3)) (.cons (.ex (.int 4)) (.cons (.ex (.int 5)) (.cons (.ex (.int 11)) (.cons (.ex (.int 12)) .nil)))))))) .nil))) (.cons (.ret (.tup (.cons (.ex (.pr .idx (.cons (.ex (.var 4)) (.cons (.ex (.var 0)) .nil)))) (.cons (.ex (.var 1)) .nil)))) .nil) .nil) (.cons (.iff (.pr .isin (.cons (.ex (.var 0)) (.cons (.ex (.tup (.cons (.ex (.int 6)) (.cons (.ex (.int 9)) (.cons (.ex (.int 10)) .nil))))) .nil))) (.cons (.ret (.tup (.cons (.ex (.pr .idx (.cons (.ex (.var 4)) (.cons (.ex (.var 0)) .nil)))) (.cons (.ex (.pr .repr (.cons (.ex (.var 1)) .nil))) .nil)))) .nil) .nil) (.cons (.iff (.pr .isin (.cons (.ex (.var 0)) (.cons (.ex (.tup (.cons (.ex (.int 7)) (.cons (.ex (.int 14)) .nil)))) .nil))) (.cons (.ret (.tup (.cons (.ex (.pr .idx (.cons (.ex (.var 4)) (.cons (.ex (.var 0)) .nil)))) (.cons (.ex (.var 1)) (.cons (.ex (.var 2)) .nil))))) .nil) .nil) (.cons (.ret (.ite (.pr .eq (.cons (.ex (.var 0)) (.cons (.ex (.int 13)) .nil))) (.tup (.cons (.ex (.pr .idx (.cons (.ex (.var 4)) (.cons (.ex (.var 0)) .nil)))) (.cons (.ex (.var 1)) (.cons (.ex (.var 2)) (.cons (.ex (.var 3)) .nil))))) (.tup (.cons (.ex (.pr .idx (.cons (.ex (.var 4)) (.cons (.ex (.var 0)) .nil)))) .nil)))) .nil)))))))))
def d10 : Dn := ⟨(("_law_due_fields" : PySem.Str), none), "_law_due_fields", "_law_due_fields", pArgs (top 30), pBody (top 30), pScope (top 30), ["kind", "one", "two", "three"], ["kind", "one", "two", "three", "words"], ⟨4, 5, [], c10⟩, false⟩
def c11 : CSs := (.cons (.asg (.nm 1) (.call 0 (.cons (.ex (.var 0)) .nil))) (.cons (.for (.nm 2) .range (.cons (.ex (.int 17)) .nil) (.cons (.par [4, 5, 6] (.cons (.ex (.call 5 (.cons (.io 1) .nil))) (.cons (.ex (.call 5 (.cons (.io 1) .nil))) (.cons (.ex (.call 5 (.cons (.io 1) .nil))) .nil)))) (.frz 4 (.frz 5 (.frz 6 (.cons (.asg (.nm 3) (.call 9 (.cons (.ex (.var 2)) (.cons (.ex (.var 4)) (.cons (.ex (.var 5)) (.cons (.ex (.var 6)) .nil)))))) (.frz 3 (.cons (.iff (.or (.pr .is (.cons (.ex (.var 3)) (.cons (.ex .non) .nil))) (.or (.pr .ne (.cons (.ex (.pr .len (.cons (.ex (.var 3)) .nil))) (.cons (.ex (.int 1)) .nil))) (.pr .ne (.cons (.ex (.pr .repr (.cons (.ex (.pr .idx (.cons (.ex (.var 3)) (.cons (.ex (.int 0)) .nil)))) .nil))) (.cons (.ex (.pr .repr (.cons (.ex (.call 10 (.cons (.ex (.var 2)) (.cons (.ex (.var 4)) (.cons (.ex (.var 5)) (.cons (.ex (.var 6)) .nil)))))) .nil))) .nil))))) (.cons (.ret (.bl false)) .nil) .nil) .nil)))))))) (.cons (.ret (.bl true)) .nil)))
def d11 : Dn := ⟨(("law" : PySem.Str), none), "law", "law", pArgs (top 31), pBody (top 31), pScope (top 31), ["script"], ["script", "pen", "kind", "told", "one", "two", "three"], ⟨1, 7, [], c11⟩, false⟩
def k0 : Cls := ⟨"RootError", [], true, none, 0, []⟩
def k1 : Cls := ⟨"BadNumber", ["what", "number"], true, some 0, 0, []⟩
def k2 : Cls := ⟨"BadRow", ["what", "row"], true, some 0, 0, []⟩
def k3 : Cls := ⟨"BadTable", ["what"], true, some 0, 0, []⟩
def k4 : Cls := ⟨"BadPoly", ["what"], true, some 0, 0, []⟩
def k5 : Cls := ⟨"BadBase", ["what"], true, some 0, 0, []⟩
def k6 : Cls := ⟨"BadBook", ["what"], true, some 0, 0, []⟩
def k7 : Cls := ⟨"BadName", ["name"], true, some 0, 0, []⟩
def k8 : Cls := ⟨"BadText", ["line", "word"], true, some 0, 0, []⟩
def k9 : Cls := ⟨"NoPlace", ["what", "index"], true, some 0, 0, []⟩
def k10 : Cls := ⟨"NoName", ["name"], true, some 0, 0, []⟩
def k11 : Cls := ⟨"TakenName", ["name"], true, some 0, 0, []⟩
def k12 : Cls := ⟨"Unlike", ["what"], true, some 0, 0, []⟩
def k13 : Cls := ⟨"NotThere", ["paper"], true, some 0, 0, []⟩
def k14 : Cls := ⟨"TooMany", ["what", "many", "limit"], true, some 0, 0, []⟩
def k15 : Cls := ⟨"NotKept", ["promise", "witness"], true, some 0, 0, []⟩
def k16 : Cls := ⟨"NothingToUndo", [], true, some 0, 0, []⟩
def k17 : Cls := ⟨"NothingToRedo", [], true, some 0, 0, []⟩
def g0 : List (PySem.Str × Gx) := [("list", .blt), ("int", .blt), ("len", .blt), ("_law_draw", .fn 1), ("isinstance", .blt), ("BadNumber", .exc 1 false), ("BadRow", .exc 2 false), ("BadTable", .exc 3 false), ("BadPoly", .exc 4 false), ("BadBase", .exc 5 false), ("BadBook", .exc 6 false), ("BadName", .exc 7 false), ("BadText", .exc 8 false), ("NoPlace", .exc 9 false), ("_law_more_kinds", .fn 4), ("repr", .blt), ("NoName", .exc 10 false), ("TakenName", .exc 11 false), ("Unlike", .exc 12 false), ("NotThere", .exc 13 false), ("TooMany", .exc 14 false), ("NotKept", .exc 15 false), ("NothingToUndo", .exc 16 true), ("NothingToRedo", .exc 17 true), ("_law_pick", .fn 2), ("RootError", .exc 0 true), ("_law_raised", .fn 6), ("_law_raised_too", .fn 7), ("_law_raised_last", .fn 8), ("ValueError", .blt)]
def g1 : List (PySem.Str × Gx) := [("_law_kinds", .fn 3), ("_law_pen", .fn 0), ("range", .blt), ("_law_told", .fn 9), ("_law_any_field", .fn 5), ("_law_due_fields", .fn 10), ("law", .fn 11)]
def fs0 : List Dn := [d0, d1, d2, d3, d4, d5, d6, d7, d8, d9, d10, d11]
def gv : Nat → Option D
  | _ => none
def tx : Tx := ⟨fs0, [k0, k1, k2, k3, k4, k5, k6, k7, k8, k9, k10, k11, k12, k13, k14, k15, k16, k17], g0 ++ g1, gv⟩
def xs : List Xn := [⟨1, "self", "BadNumber.__init__", pArgs (inner (top 2) 0), pBody (inner (top 2) 0), pScope (inner (top 2) 0)⟩,
  ⟨2, "self", "BadRow.__init__", pArgs (inner (top 3) 0), pBody (inner (top 3) 0), pScope (inner (top 3) 0)⟩,
  ⟨3, "self", "BadTable.__init__", pArgs (inner (top 4) 0), pBody (inner (top 4) 0), pScope (inner (top 4) 0)⟩,
  ⟨4, "self", "BadPoly.__init__", pArgs (inner (top 5) 0), pBody (inner (top 5) 0), pScope (inner (top 5) 0)⟩,
  ⟨5, "self", "BadBase.__init__", pArgs (inner (top 6) 0), pBody (inner (top 6) 0), pScope (inner (top 6) 0)⟩,
  ⟨6, "self", "BadBook.__init__", pArgs (inner (top 7) 0), pBody (inner (top 7) 0), pScope (inner (top 7) 0)⟩,
  ⟨7, "self", "BadName.__init__", pArgs (inner (top 8) 0), pBody (inner (top 8) 0), pScope (inner (top 8) 0)⟩,
  ⟨8, "self", "BadText.__init__", pArgs (inner (top 9) 0), pBody (inner (top 9) 0), pScope (inner (top 9) 0)⟩,
  ⟨9, "self", "NoPlace.__init__", pArgs (inner (top 10) 0), pBody (inner (top 10) 0), pScope (inner (top 10) 0)⟩,
  ⟨10, "self", "NoName.__init__", pArgs (inner (top 11) 0), pBody (inner (top 11) 0), pScope (inner (top 11) 0)⟩,
  ⟨11, "self", "TakenName.__init__", pArgs (inner (top 12) 0), pBody (inner (top 12) 0), pScope (inner (top 12) 0)⟩,
  ⟨12, "self", "Unlike.__init__", pArgs (inner (top 13) 0), pBody (inner (top 13) 0), pScope (inner (top 13) 0)⟩,
  ⟨13, "self", "NotThere.__init__", pArgs (inner (top 14) 0), pBody (inner (top 14) 0), pScope (inner (top 14) 0)⟩,
  ⟨14, "self", "TooMany.__init__", pArgs (inner (top 15) 0), pBody (inner (top 15) 0), pScope (inner (top 15) 0)⟩,
  ⟨15, "self", "NotKept.__init__", pArgs (inner (top 16) 0), pBody (inner (top 16) 0), pScope (inner (top 16) 0)⟩]
abbrev lf : Nat := 11
theorem all_ok : allB tx xs "law" lf = true := by kernel_rfl
end K01
namespace K01
open PySem PI
def keys : List D := [.str "cells", .str "at", .str "digits", .str "count", .str "fold"]
def pen (o : Bool) (cs : List Int) (a d c f : Int) : D := .dic o keys [.lst false (cs.map .int), .int a, .int d, .int c, .int f]
theorem g_cells {o : Bool} {a b c d e : D} {T : ClsT} : pr T .idx [.dic o keys [a, b, c, d, e], .str "cells"] = some a := by rfl
theorem g_at {o : Bool} {a b c d e : D} {T : ClsT} : pr T .idx [.dic o keys [a, b, c, d, e], .str "at"] = some b := by rfl
theorem g_digits {o : Bool} {a b c d e : D} {T : ClsT} : pr T .idx [.dic o keys [a, b, c, d, e], .str "digits"] = some c := by rfl
theorem g_count {o : Bool} {a b c d e : D} {T : ClsT} : pr T .idx [.dic o keys [a, b, c, d, e], .str "count"] = some d := by rfl
theorem g_fold {o : Bool} {a b c d e : D} {T : ClsT} : pr T .idx [.dic o keys [a, b, c, d, e], .str "fold"] = some e := by rfl
theorem s_at {a b c d e v : D} : setItemD (.dic true keys [a, b, c, d, e]) (.str "at") v = some (.dic true keys [a, v, c, d, e]) := by rfl
theorem s_digits {a b c d e v : D} : setItemD (.dic true keys [a, b, c, d, e]) (.str "digits") v = some (.dic true keys [a, b, v, d, e]) := by rfl
theorem s_count {a b c d e v : D} : setItemD (.dic true keys [a, b, c, d, e]) (.str "count") v = some (.dic true keys [a, b, c, v, e]) := by rfl
theorem s_fold {a b c d e v : D} : setItemD (.dic true keys [a, b, c, d, e]) (.str "fold") v = some (.dic true keys [a, b, c, d, v]) := by rfl
end K01
namespace K01
open PySem PI
/-- what a draw mixes, as the program does -/
def mix (f c : Int) : Int := ((f * 48271 + c * 7919 + 13).fmod 2147483647 * (f * 48271 + c * 7919 + 13).fmod 2147483647 + 31 * (f * 48271 + c * 7919 + 13).fmod 2147483647 + c).fmod 2147483629
theorem fm_lt {a b : Int} (h : 0 < b) : 0 ≤ a.fmod b ∧ a.fmod b < b := ⟨Int.fmod_nonneg_of_pos a h, Int.fmod_lt_of_pos a h⟩
theorem draw_a {n : Nat} {cs : List Int} {a d c f m : Int} (hd : 0 < d) (hm : 0 < m) (hm2 : divOk m = true) : callF tx.T tx.gv tx.tb (n + 1) 1 [pen true cs a d c f, .int m] = .ok (.int (d.fmod m)) [some (pen true cs a (d.fdiv m) (c + 1) f), none] := by
  rw [callF_succ (d := d1) rfl]
  have hd' : d ≠ 0 := by omega
  have hm' : m ≠ 0 := by omega
  unfold bodyF d1 c1
  simp [runs, PI.run, ev, eva, evs, bd, ofO, rdS, ard, ownAt, setSlot, truM, truth, asgT, outsOf, finF, startE, pen, D.own, D.fr, ioOk, g_count, g_digits, g_at, g_cells, g_fold, s_count, s_digits, s_at, s_fold, cx_T, cx_F, q_add, q_sub, q_eq, q_lt, q_gt, q_ge, q_int, q_mod, q_fdiv, q_mul, hd', hd, hm', hm2]
theorem draw_d {n : Nat} {cs : List Int} {a c f m : Int} (ha : (cs.length : Int) ≤ a) (hm : 0 < m) (hf : 0 ≤ f ∧ f < 2 ^ 31) (hc : 0 ≤ c ∧ c < 10 ^ 6) : callF tx.T tx.gv tx.tb (n + 1) 1 [pen true cs a 0 c f, .int m] = .ok (.int (((mix f (c + 1)).fdiv 64).fmod m)) [some (pen true cs a 0 (c + 1) ((mix f (c + 1) * 16807 + 7).fmod 2147483647)), none] := by
  rw [callF_succ (d := d1) rfl]
  have hm' : m ≠ 0 := by omega
  have ha' : ¬ a < (cs.length : Int) := by omega
  have m1 : mulOk f 48271 = true := mulOk_of (by omega) (by decide)
  have m2 : mulOk (c + 1) 7919 = true := mulOk_of (by omega) (by decide)
  have b1 := fm_lt (a := f * 48271 + (c + 1) * 7919 + 13) (b := 2147483647) (by decide)
  have m3 : mulOk ((f * 48271 + (c + 1) * 7919 + 13).fmod 2147483647) ((f * 48271 + (c + 1) * 7919 + 13).fmod 2147483647) = true := mulOk_of (by omega) (by omega)
  have m4 : mulOk 31 ((f * 48271 + (c + 1) * 7919 + 13).fmod 2147483647) = true := mulOk_of (by decide) (by omega)
  have b2 := fm_lt (a := (f * 48271 + (c + 1) * 7919 + 13).fmod 2147483647 * (f * 48271 + (c + 1) * 7919 + 13).fmod 2147483647 + 31 * (f * 48271 + (c + 1) * 7919 + 13).fmod 2147483647 + (c + 1)) (b := 2147483629) (by decide)
  have m5 : mulOk (((f * 48271 + (c + 1) * 7919 + 13).fmod 2147483647 * (f * 48271 + (c + 1) * 7919 + 13).fmod 2147483647 + 31 * (f * 48271 + (c + 1) * 7919 + 13).fmod 2147483647 + (c + 1)).fmod 2147483629) 16807 = true := mulOk_of (by omega) (by decide)
  have d64 : divOk 64 = true := divOk_of (by decide) (by decide)
  unfold bodyF d1 c1
  simp [runs, PI.run, ev, eva, evs, bd, ofO, rdS, ard, ownAt, setSlot, truM, truth, asgT, outsOf, finF, startE, pen, D.own, D.fr, ioOk, g_count, g_digits, g_at, g_cells, g_fold, s_count, s_digits, s_at, s_fold, cx_T, cx_F, q_add, q_sub, q_eq, q_lt, q_gt, q_ge, q_int, q_mod, q_fdiv, q_mul, q_lenL, ha', hm', m1, m2, m3, m4, m5, d64, mix]

theorem pw18 : powOk 10 18 = true := by decide +kernel
theorem pw6 : powOk 10 6 = true := by decide +kernel
theorem pw40 : powOk 10 40 = true := by decide +kernel
/-- a great cell: its digits are drawn -/
theorem draw_b {n : Nat} {cs : List Int} {a c f m z : Int} (ha : a < (cs.length : Int)) (hz : L2.atI (cs.map D.int) a = some (.int z)) (hb : 10 ^ 18 < z) (hm : 0 < m) (hm2 : divOk m = true) :
    callF tx.T tx.gv tx.tb (n + 1) 1 [pen true cs a 0 c f, .int m] = .ok (.int ((z - 10 ^ 18).fmod m)) [some (pen true cs (a + 1) ((z - 10 ^ 18).fdiv m) (c + 1) f), none] := by
  rw [callF_succ (d := d1) rfl]
  have hm' : m ≠ 0 := by omega
  have h1 : (1000000000000000000 : Int) ≤ z := by omega
  have h2 : 0 < z - 1000000000000000000 := by omega
  have h3 : z - 1000000000000000000 ≠ 0 := by omega
  have h4 : (1000000000000000000 : Int) < z := by omega
  have h5 : ¬ z = 1000000000000000000 := by omega
  unfold bodyF d1 c1
  simp [runs, PI.run, ev, eva, evs, bd, ofO, rdS, ard, ownAt, setSlot, truM, truth, asgT, outsOf, finF, startE, pen, D.own, D.fr, ioOk, g_count, g_digits, g_at, g_cells, g_fold, s_count, s_digits, s_at, s_fold, cx_T, cx_F, q_add, q_sub, q_eq, q_lt, q_gt, q_ge, q_int, q_mod, q_fdiv, q_mul, q_lenL, q_idxL, q_pow, pw18, ha, hz, hm', hm2, h1, h2, h3, h4, h5]
/-- .. just so great: no digits -/
theorem draw_b0 {n : Nat} {cs : List Int} {a c f m : Int} (ha : a < (cs.length : Int)) (hz : L2.atI (cs.map D.int) a = some (.int (10 ^ 18))) (hm : 0 < m) (hf : 0 ≤ f ∧ f < 2 ^ 31) (hc : 0 ≤ c ∧ c < 10 ^ 6) :
    callF tx.T tx.gv tx.tb (n + 1) 1 [pen true cs a 0 c f, .int m] = .ok (.int (((mix f (c + 1)).fdiv 64).fmod m)) [some (pen true cs (a + 1) 0 (c + 1) ((mix f (c + 1) * 16807 + 7).fmod 2147483647)), none] := by
  rw [callF_succ (d := d1) rfl]
  have hm' : m ≠ 0 := by omega
  have m1 : mulOk f 48271 = true := mulOk_of (by omega) (by decide)
  have m2 : mulOk (c + 1) 7919 = true := mulOk_of (by omega) (by decide)
  have b1 := fm_lt (a := f * 48271 + (c + 1) * 7919 + 13) (b := 2147483647) (by decide)
  have m3 : mulOk ((f * 48271 + (c + 1) * 7919 + 13).fmod 2147483647) ((f * 48271 + (c + 1) * 7919 + 13).fmod 2147483647) = true := mulOk_of (by omega) (by omega)
  have m4 : mulOk 31 ((f * 48271 + (c + 1) * 7919 + 13).fmod 2147483647) = true := mulOk_of (by decide) (by omega)
  have b2 := fm_lt (a := (f * 48271 + (c + 1) * 7919 + 13).fmod 2147483647 * (f * 48271 + (c + 1) * 7919 + 13).fmod 2147483647 + 31 * (f * 48271 + (c + 1) * 7919 + 13).fmod 2147483647 + (c + 1)) (b := 2147483629) (by decide)
  have m5 : mulOk (((f * 48271 + (c + 1) * 7919 + 13).fmod 2147483647 * (f * 48271 + (c + 1) * 7919 + 13).fmod 2147483647 + 31 * (f * 48271 + (c + 1) * 7919 + 13).fmod 2147483647 + (c + 1)).fmod 2147483629) 16807 = true := mulOk_of (by omega) (by decide)
  have d64 : divOk 64 = true := divOk_of (by decide) (by decide)
  have hz' : L2.atI (cs.map D.int) a = some (.int 1000000000000000000) := hz
  unfold bodyF d1 c1
  simp [runs, PI.run, ev, eva, evs, bd, ofO, rdS, ard, ownAt, setSlot, truM, truth, asgT, outsOf, finF, startE, pen, D.own, D.fr, ioOk, g_count, g_digits, g_at, g_cells, g_fold, s_count, s_digits, s_at, s_fold, cx_T, cx_F, q_add, q_sub, q_eq, q_lt, q_gt, q_ge, q_int, q_mod, q_fdiv, q_mul, q_lenL, q_idxL, q_pow, pw18, ha, hz', hm', m1, m2, m3, m4, m5, d64, mix]
/-- a small cell: mixed in -/
theorem draw_c {n : Nat} {cs : List Int} {a c f m z : Int} (ha : a < (cs.length : Int)) (hz : L2.atI (cs.map D.int) a = some (.int z)) (hb : z < 10 ^ 18) (hm : 0 < m) (hf : 0 ≤ f ∧ f < 2 ^ 31) (hc : 0 ≤ c ∧ c < 10 ^ 6) {g : Int} (hg : g = (f * 69069 + z).fmod 2147483587) :
    callF tx.T tx.gv tx.tb (n + 1) 1 [pen true cs a 0 c f, .int m] = .ok (.int (((mix g (c + 1)).fdiv 64).fmod m)) [some (pen true cs (a + 1) 0 (c + 1) ((mix g (c + 1) * 16807 + 7).fmod 2147483647)), none] := by
  rw [callF_succ (d := d1) rfl]
  have hm' : m ≠ 0 := by omega
  have h1 : ¬ (1000000000000000000 : Int) ≤ z := by omega
  have m0 : mulOk f 69069 = true := mulOk_of (by omega) (by decide)
  have b0 := fm_lt (a := f * 69069 + z) (b := 2147483587) (by decide)
  rw [← hg] at b0
  have m1 : mulOk g 48271 = true := mulOk_of (by omega) (by decide)
  have m2 : mulOk (c + 1) 7919 = true := mulOk_of (by omega) (by decide)
  have b1 := fm_lt (a := g * 48271 + (c + 1) * 7919 + 13) (b := 2147483647) (by decide)
  have m3 : mulOk ((g * 48271 + (c + 1) * 7919 + 13).fmod 2147483647) ((g * 48271 + (c + 1) * 7919 + 13).fmod 2147483647) = true := mulOk_of (by omega) (by omega)
  have m4 : mulOk 31 ((g * 48271 + (c + 1) * 7919 + 13).fmod 2147483647) = true := mulOk_of (by decide) (by omega)
  have b2 := fm_lt (a := (g * 48271 + (c + 1) * 7919 + 13).fmod 2147483647 * (g * 48271 + (c + 1) * 7919 + 13).fmod 2147483647 + 31 * (g * 48271 + (c + 1) * 7919 + 13).fmod 2147483647 + (c + 1)) (b := 2147483629) (by decide)
  have m5 : mulOk (((g * 48271 + (c + 1) * 7919 + 13).fmod 2147483647 * (g * 48271 + (c + 1) * 7919 + 13).fmod 2147483647 + 31 * (g * 48271 + (c + 1) * 7919 + 13).fmod 2147483647 + (c + 1)).fmod 2147483629) 16807 = true := mulOk_of (by omega) (by decide)
  have d64 : divOk 64 = true := divOk_of (by decide) (by decide)
  unfold bodyF d1 c1
  simp [runs, PI.run, ev, eva, evs, bd, ofO, rdS, ard, ownAt, setSlot, truM, truth, asgT, outsOf, finF, startE, pen, D.own, D.fr, ioOk, g_count, g_digits, g_at, g_cells, g_fold, s_count, s_digits, s_at, s_fold, cx_T, cx_F, q_add, q_sub, q_eq, q_lt, q_gt, q_ge, q_int, q_mod, q_fdiv, q_mul, q_lenL, q_idxL, q_pow, pw18, ha, hz, hm', h1, m0, ← hg, m1, m2, m3, m4, m5, d64, mix]
theorem at_int {cs : List Int} {a : Int} (h0 : 0 ≤ a) (h1 : a < (cs.length : Int)) : ∃ z, L2.atI (cs.map D.int) a = some (.int z) := by
  have hl : a.toNat < cs.length := by omega
  refine ⟨cs[a.toNat], ?_⟩
  unfold L2.atI L2.ixN
  rw [List.length_map, if_pos h0, if_pos h1]
  simp only [Option.bind_some, List.getElem?_map]
  rw [List.getElem?_eq_getElem hl]
  rfl
structure PenOk (cs : List Int) (a d c f : Int) : Prop where
  a0 : 0 ≤ a
  d0 : 0 ≤ d
  c0 : 0 ≤ c
  f0 : 0 ≤ f ∧ f < 2 ^ 31
theorem draw {n : Nat} {cs : List Int} {a d c f m : Int} (P : PenOk cs a d c f) (hm : 0 < m) (hm2 : m < 2 ^ 60) (hc : c < 10 ^ 6) : ∃ r a' d' f', callF tx.T tx.gv tx.tb (n + 1) 1 [pen true cs a d c f, .int m] = .ok (.int r) [some (pen true cs a' d' (c + 1) f'), none] ∧ 0 ≤ r ∧ r < m ∧ PenOk cs a' d' (c + 1) f' := by
  have dm : divOk m = true := divOk_of (by omega) (by omega)
  obtain ⟨a0, d0, c0, f0⟩ := P
  have fin : ∀ x : Int, 0 ≤ (x.fmod 2147483647) ∧ (x.fmod 2147483647) < 2 ^ 31 := fun x => by
    have := fm_lt (a := x) (b := 2147483647) (by decide)
    omega
  by_cases hd : 0 < d
  · obtain ⟨r1, r2⟩ := fm_lt (a := d) hm
    exact ⟨_, _, _, _, draw_a hd hm dm, r1, r2, a0, Int.fdiv_nonneg d0 (by omega), by omega, f0⟩
  · have e : d = 0 := by omega
    subst e
    by_cases ha : a < (cs.length : Int)
    · obtain ⟨z, hz⟩ := at_int a0 ha
      by_cases h1 : (10 : Int) ^ 18 < z
      · obtain ⟨r1, r2⟩ := fm_lt (a := z - 10 ^ 18) hm
        exact ⟨_, _, _, _, draw_b ha hz h1 hm dm, r1, r2, by omega, Int.fdiv_nonneg (by omega) (by omega), by omega, f0⟩
      · by_cases h2 : z = 10 ^ 18
        · subst h2
          obtain ⟨r1, r2⟩ := fm_lt (a := (mix f (c + 1)).fdiv 64) hm
          exact ⟨_, _, _, _, draw_b0 ha hz hm f0 ⟨c0, hc⟩, r1, r2, by omega, by omega, by omega, fin _⟩
        · obtain ⟨r1, r2⟩ := fm_lt (a := (mix ((f * 69069 + z).fmod 2147483587) (c + 1)).fdiv 64) hm
          exact ⟨_, _, _, _, draw_c ha hz (by omega) hm f0 ⟨c0, hc⟩ rfl, r1, r2, by omega, by omega, by omega, fin _⟩
    · obtain ⟨r1, r2⟩ := fm_lt (a := (mix f (c + 1)).fdiv 64) hm
      exact ⟨_, _, _, _, draw_d (by omega) hm f0 ⟨c0, hc⟩, r1, r2, a0, by omega, by omega, fin _⟩
end K01
namespace K01
open PySem PI
theorem at_any {xs : List D} {r : Int} (h0 : 0 ≤ r) (h1 : r < (xs.length : Int)) : ∃ v, v ∈ xs ∧ L2.atI xs r = some v := by
  have hl : r.toNat < xs.length := by omega
  refine ⟨xs[r.toNat], List.getElem_mem hl, ?_⟩
  unfold L2.atI L2.ixN
  rw [if_pos h0, if_pos h1]
  simp only [Option.bind_some]
  rw [List.getElem?_eq_getElem hl]
theorem pick {n : Nat} {cs : List Int} {a d c f : Int} {xs : List D} (P : PenOk cs a d c f) (hc : c < 10 ^ 6) (hx : 0 < xs.length) (hx2 : xs.length < 1000) : ∃ v a' d' f', callF tx.T tx.gv tx.tb (n + 2) 2 [pen true cs a d c f, .lst false xs] = .ok v [some (pen true cs a' d' (c + 1) f'), none] ∧ v ∈ xs ∧ PenOk cs a' d' (c + 1) f' := by
  obtain ⟨r, a', d', f', e, h0, h1, P'⟩ := draw (n := n) P (m := (xs.length : Int)) (by omega) (by omega) hc
  obtain ⟨v, hv, hat⟩ := at_any h0 h1
  refine ⟨v, a', d', f', ?_, hv, P'⟩
  rw [callF_succ (d := d2) rfl]
  simp only [pen] at e ⊢
  unfold bodyF d2 c2
  simp [runs, PI.run, ev, eva, evs, bd, ofO, rdS, ard, arc, callR, putB, okIo, noIx, lentB, ownAt, setSlot, truM, truth, asgT, outsOf, finF, startE, D.own, D.fr, ioOk, cx_T, cx_F, q_lenL, q_idxL, e, hat]
/-- a field's value, changed no more -/
def fix9 : List D := [.non, .bl true, .bl false, .int 0, .int (-1), .str "x", .str "", .int (10 ^ 40), .dic false [.str "k"] [.int 1]]
def Fld (v : D) : Prop := (∃ i : Int, 0 ≤ i ∧ i < 100 ∧ v = .lst false [.int i, .lst false []]) ∨ (∃ j : Int, 0 ≤ j ∧ j < 10 ^ 6 ∧ v = .tup [.str "a", .tup [.int j]]) ∨ v ∈ fix9
/-- what is handed out: a list of its own, perhaps -/
def Fld1 (v : D) : Prop := Fld v.fr
theorem any_field {n : Nat} {cs : List Int} {a d c f : Int} (P : PenOk cs a d c f) (hc : c + 3 < 10 ^ 6) : ∃ v a' d' c' f', callF tx.T tx.gv tx.tb (n + 3) 5 [pen true cs a d c f] = .ok v [some (pen true cs a' d' c' f')] ∧ Fld v.fr ∧ PenOk cs a' d' c' f' ∧ c' ≤ c + 3 := by
  obtain ⟨r, a1, d1', f1, e1, h0, h1, P1⟩ := draw (n := n + 1) P (m := 8) (by omega) (by omega) (by omega)
  by_cases w0 : r = 0
  · obtain ⟨i, a2, d2', f2, e2, i0, i1, P2⟩ := draw (n := n + 1) P1 (m := 100) (by omega) (by omega) (by omega)
    refine ⟨.lst true [.int i, .lst false []], a2, d2', c + 1 + 1, f2, ?_, .inl ⟨i, i0, i1, rfl⟩, P2, by omega⟩
    rw [callF_succ (d := d5) rfl]
    simp only [pen] at e1 e2 ⊢
    unfold bodyF d5 c5
    simp [runs, PI.run, ev, eva, evs, bd, ofO, rdS, ard, ardD, arc, callR, putB, okIo, noIx, lentB, ownAt, setSlot, truM, truth, asgT, outsOf, finF, startE, D.own, D.fr, ioOk, cx_T, cx_F, q_eq, e1, e2, w0]
  · by_cases w1 : r = 1
    · obtain ⟨i, a2, d2', f2, e2, i0, i1, P2⟩ := draw (n := n + 1) P1 (m := 1000000) (by omega) (by omega) (by omega)
      refine ⟨.tup [.str "a", .tup [.int i]], a2, d2', c + 1 + 1, f2, ?_, .inr (.inl ⟨i, i0, by omega, rfl⟩), P2, by omega⟩
      rw [callF_succ (d := d5) rfl]
      simp only [pen] at e1 e2 ⊢
      unfold bodyF d5 c5
      simp [runs, PI.run, ev, eva, evs, bd, ofO, rdS, ard, ardD, arc, callR, putB, okIo, noIx, lentB, ownAt, setSlot, truM, truth, asgT, outsOf, finF, startE, D.own, D.fr, ioOk, cx_T, cx_F, q_eq, q_pow, pw6, e1, e2, w0, w1]
    · obtain ⟨v, a2, d2', f2, e2, hv, P2⟩ := pick (n := n) (xs := fix9) P1 (by omega) (by decide) (by decide)
      have hfr : v.fr = v := by
        simp only [fix9, List.mem_cons, List.not_mem_nil, or_false] at hv
        rcases hv with h | h | h | h | h | h | h | h | h <;> (subst h; rfl)
      have hown : v.own = false := by
        simp only [fix9, List.mem_cons, List.not_mem_nil, or_false] at hv
        rcases hv with h | h | h | h | h | h | h | h | h <;> (subst h; rfl)
      refine ⟨v, a2, d2', c + 1 + 1, f2, ?_, by rw [hfr]; exact .inr (.inr hv), P2, by omega⟩
      rw [callF_succ (d := d5) rfl]
      simp only [pen, fix9] at e1 e2 ⊢
      unfold bodyF d5 c5
      simp [runs, PI.run, ev, eva, evs, bd, ofO, rdS, ard, ardD, arc, callR, putB, okIo, noIx, lentB, ownAt, setSlot, truM, truth, asgT, outsOf, finF, startE, D.own, D.fr, ioOk, cx_T, cx_F, q_eq, q_pow, q_neg, pw40, e1, e2, w0, w1] at e2 ⊢
end K01
namespace K01
open PySem PI
theorem ow_non : D.non.own = false := rfl
theorem ow_bl {b : Bool} : (D.bl b).own = false := rfl
theorem ow_int {i : Int} : (D.int i).own = false := rfl
theorem ow_str {i : Str} : (D.str i).own = false := rfl
theorem ow_tup {i : List D} : (D.tup i).own = false := rfl
theorem ow_lst {o : Bool} {i : List D} : (D.lst o i).own = o := rfl
theorem ow_exc {o : Nat} {i : List D} : (D.exc o i).own = false := rfl
theorem fr_non : D.non.fr = .non := rfl
theorem fr_bl {b : Bool} : (D.bl b).fr = .bl b := rfl
theorem fr_int {i : Int} : (D.int i).fr = .int i := rfl
theorem fr_str {i : Str} : (D.str i).fr = .str i := rfl
theorem fr_tup {i : List D} : (D.tup i).fr = .tup i := rfl
theorem fr_lst {o : Bool} {i : List D} : (D.lst o i).fr = .lst false i := rfl
theorem fr_exc {o : Nat} {i : List D} : (D.exc o i).fr = .exc o i := rfl
/-- a frozen value -/
structure Fz (v : D) : Prop where
  ow : v.own = false
  fr : v.fr = v
  nx : v.noX = true
theorem cls_at {K : Nat} (h1 : 1 ≤ K) (h2 : K < 18) : ∃ c, tx.T K = some c ∧ c.exc = true ∧ c.up = some 0 := by
  match K, h1, h2 with
  | 1, _, _ => exact ⟨k1, rfl, rfl, rfl⟩
  | 2, _, _ => exact ⟨k2, rfl, rfl, rfl⟩
  | 3, _, _ => exact ⟨k3, rfl, rfl, rfl⟩
  | 4, _, _ => exact ⟨k4, rfl, rfl, rfl⟩
  | 5, _, _ => exact ⟨k5, rfl, rfl, rfl⟩
  | 6, _, _ => exact ⟨k6, rfl, rfl, rfl⟩
  | 7, _, _ => exact ⟨k7, rfl, rfl, rfl⟩
  | 8, _, _ => exact ⟨k8, rfl, rfl, rfl⟩
  | 9, _, _ => exact ⟨k9, rfl, rfl, rfl⟩
  | 10, _, _ => exact ⟨k10, rfl, rfl, rfl⟩
  | 11, _, _ => exact ⟨k11, rfl, rfl, rfl⟩
  | 12, _, _ => exact ⟨k12, rfl, rfl, rfl⟩
  | 13, _, _ => exact ⟨k13, rfl, rfl, rfl⟩
  | 14, _, _ => exact ⟨k14, rfl, rfl, rfl⟩
  | 15, _, _ => exact ⟨k15, rfl, rfl, rfl⟩
  | 16, _, _ => exact ⟨k16, rfl, rfl, rfl⟩
  | 17, _, _ => exact ⟨k17, rfl, rfl, rfl⟩
  | n + 18, _, h => exact absurd h (by omega)
theorem cls_is {C : Nat} (h2 : C < 18) : (tx.T C).isSome = true := by
  by_cases h : 1 ≤ C
  · obtain ⟨c, e, _⟩ := cls_at h h2
    rw [e]
    rfl
  · have e : C = 0 := by omega
    rw [e]
    rfl
theorem q_isiX {K C : Nat} {vs : List D} (h1 : 1 ≤ K) (h2 : K < 18) (h3 : C < 18) : pr tx.T (.isi [.cls C]) [.exc K vs] = some (.bl (K == C || 0 == C)) := by
  obtain ⟨c, e1, e2, e3⟩ := cls_at h1 h2
  have t : tyIs tx.T (.exc K vs) (.cls C) = some (K == C || 0 == C) := by
    show (if (tx.T C).isSome = true then some (K == C || (match tx.T K with
      | some c => c.up == some C
      | none => false)) else none) = _
    rw [if_pos (cls_is h3), e1]
    simp only [e3]
    rfl
  show (if okKind tx.T (.exc K vs) && !([Ty.cls C]).isEmpty then (tyAny tx.T (.exc K vs) [.cls C]).map D.bl else none) = _
  have o : okKind tx.T (.exc K vs) = true := by
    show (match tx.T K with
      | some c => c.exc
      | none => false) = true
    rw [e1]
    exact e2
  rw [o]
  unfold tyAny
  rw [t]
  cases (K == C || 0 == C) <;> rfl
theorem q_isiV {K : Nat} {vs : List D} (h1 : 1 ≤ K) (h2 : K < 18) : pr tx.T (.isi [.valueError]) [.exc K vs] = some (.bl true) := by
  obtain ⟨c, e1, e2, e3⟩ := cls_at h1 h2
  show (if okKind tx.T (.exc K vs) && !([Ty.valueError]).isEmpty then (tyAny tx.T (.exc K vs) [.valueError]).map D.bl else none) = _
  have o : okKind tx.T (.exc K vs) = true := by
    show (match tx.T K with
      | some c => c.exc
      | none => false) = true
    rw [e1]
    exact e2
  rw [o]
  rfl
theorem sub_0 {K : Nat} (h1 : 1 ≤ K) (h2 : K < 18) : isSub tx.T K 0 = true := by
  obtain ⟨c, e1, e2, e3⟩ := cls_at h1 h2
  unfold isSub
  rw [e1]
  simp [e3]
theorem ln1 : lineOk 1 = true := by decide
theorem q_addL {T : ClsT} {o o' : Bool} {a b : List D} : pr T .add [.lst o a, .lst o' b] = if lineOk (a.length + b.length) then some (.lst true (a ++ b)) else none := rfl
theorem at_1_what {a b : D} : pr tx.T (.attr "what") [.exc 1 [a, b]] = some a := rfl
theorem at_1_number {a b : D} : pr tx.T (.attr "number") [.exc 1 [a, b]] = some b := rfl
theorem t_1 : ∃ c, tx.T 1 = some c ∧ c.fields.length = 2 ∧ c.exc = true := ⟨k1, rfl, rfl, rfl⟩
theorem T_1 : tx.T 1 = some k1 := rfl
theorem at_2_what {a b : D} : pr tx.T (.attr "what") [.exc 2 [a, b]] = some a := rfl
theorem at_2_row {a b : D} : pr tx.T (.attr "row") [.exc 2 [a, b]] = some b := rfl
theorem t_2 : ∃ c, tx.T 2 = some c ∧ c.fields.length = 2 ∧ c.exc = true := ⟨k2, rfl, rfl, rfl⟩
theorem T_2 : tx.T 2 = some k2 := rfl
theorem at_3_what {a : D} : pr tx.T (.attr "what") [.exc 3 [a]] = some a := rfl
theorem t_3 : ∃ c, tx.T 3 = some c ∧ c.fields.length = 1 ∧ c.exc = true := ⟨k3, rfl, rfl, rfl⟩
theorem T_3 : tx.T 3 = some k3 := rfl
theorem at_4_what {a : D} : pr tx.T (.attr "what") [.exc 4 [a]] = some a := rfl
theorem t_4 : ∃ c, tx.T 4 = some c ∧ c.fields.length = 1 ∧ c.exc = true := ⟨k4, rfl, rfl, rfl⟩
theorem T_4 : tx.T 4 = some k4 := rfl
theorem at_5_what {a : D} : pr tx.T (.attr "what") [.exc 5 [a]] = some a := rfl
theorem t_5 : ∃ c, tx.T 5 = some c ∧ c.fields.length = 1 ∧ c.exc = true := ⟨k5, rfl, rfl, rfl⟩
theorem T_5 : tx.T 5 = some k5 := rfl
theorem at_6_what {a : D} : pr tx.T (.attr "what") [.exc 6 [a]] = some a := rfl
theorem t_6 : ∃ c, tx.T 6 = some c ∧ c.fields.length = 1 ∧ c.exc = true := ⟨k6, rfl, rfl, rfl⟩
theorem T_6 : tx.T 6 = some k6 := rfl
theorem at_7_name {a : D} : pr tx.T (.attr "name") [.exc 7 [a]] = some a := rfl
theorem t_7 : ∃ c, tx.T 7 = some c ∧ c.fields.length = 1 ∧ c.exc = true := ⟨k7, rfl, rfl, rfl⟩
theorem T_7 : tx.T 7 = some k7 := rfl
theorem at_8_line {a b : D} : pr tx.T (.attr "line") [.exc 8 [a, b]] = some a := rfl
theorem at_8_word {a b : D} : pr tx.T (.attr "word") [.exc 8 [a, b]] = some b := rfl
theorem t_8 : ∃ c, tx.T 8 = some c ∧ c.fields.length = 2 ∧ c.exc = true := ⟨k8, rfl, rfl, rfl⟩
theorem T_8 : tx.T 8 = some k8 := rfl
theorem at_9_what {a b : D} : pr tx.T (.attr "what") [.exc 9 [a, b]] = some a := rfl
theorem at_9_index {a b : D} : pr tx.T (.attr "index") [.exc 9 [a, b]] = some b := rfl
theorem t_9 : ∃ c, tx.T 9 = some c ∧ c.fields.length = 2 ∧ c.exc = true := ⟨k9, rfl, rfl, rfl⟩
theorem T_9 : tx.T 9 = some k9 := rfl
theorem at_10_name {a : D} : pr tx.T (.attr "name") [.exc 10 [a]] = some a := rfl
theorem t_10 : ∃ c, tx.T 10 = some c ∧ c.fields.length = 1 ∧ c.exc = true := ⟨k10, rfl, rfl, rfl⟩
theorem T_10 : tx.T 10 = some k10 := rfl
theorem at_11_name {a : D} : pr tx.T (.attr "name") [.exc 11 [a]] = some a := rfl
theorem t_11 : ∃ c, tx.T 11 = some c ∧ c.fields.length = 1 ∧ c.exc = true := ⟨k11, rfl, rfl, rfl⟩
theorem T_11 : tx.T 11 = some k11 := rfl
theorem at_12_what {a : D} : pr tx.T (.attr "what") [.exc 12 [a]] = some a := rfl
theorem t_12 : ∃ c, tx.T 12 = some c ∧ c.fields.length = 1 ∧ c.exc = true := ⟨k12, rfl, rfl, rfl⟩
theorem T_12 : tx.T 12 = some k12 := rfl
theorem at_13_paper {a : D} : pr tx.T (.attr "paper") [.exc 13 [a]] = some a := rfl
theorem t_13 : ∃ c, tx.T 13 = some c ∧ c.fields.length = 1 ∧ c.exc = true := ⟨k13, rfl, rfl, rfl⟩
theorem T_13 : tx.T 13 = some k13 := rfl
theorem at_14_what {a b c : D} : pr tx.T (.attr "what") [.exc 14 [a, b, c]] = some a := rfl
theorem at_14_many {a b c : D} : pr tx.T (.attr "many") [.exc 14 [a, b, c]] = some b := rfl
theorem at_14_limit {a b c : D} : pr tx.T (.attr "limit") [.exc 14 [a, b, c]] = some c := rfl
theorem t_14 : ∃ c, tx.T 14 = some c ∧ c.fields.length = 3 ∧ c.exc = true := ⟨k14, rfl, rfl, rfl⟩
theorem T_14 : tx.T 14 = some k14 := rfl
theorem at_15_promise {a b : D} : pr tx.T (.attr "promise") [.exc 15 [a, b]] = some a := rfl
theorem at_15_witness {a b : D} : pr tx.T (.attr "witness") [.exc 15 [a, b]] = some b := rfl
theorem t_15 : ∃ c, tx.T 15 = some c ∧ c.fields.length = 2 ∧ c.exc = true := ⟨k15, rfl, rfl, rfl⟩
theorem T_15 : tx.T 15 = some k15 := rfl
theorem t_16 : ∃ c, tx.T 16 = some c ∧ c.fields.length = 0 ∧ c.exc = true := ⟨k16, rfl, rfl, rfl⟩
theorem T_16 : tx.T 16 = some k16 := rfl
theorem t_17 : ∃ c, tx.T 17 = some c ∧ c.fields.length = 0 ∧ c.exc = true := ⟨k17, rfl, rfl, rfl⟩
theorem T_17 : tx.T 17 = some k17 := rfl
theorem r0_6 {n : Nat} {v1 v2 v3 : D} (h1 : Fz v1) (h2 : Fz v2) (h3 : Fz v3) : callF tx.T tx.gv tx.tb (n + 1) 6 [.int 0, v1, v2, v3] = .exc (.exc 1 [v1, v2]) [none, none, none, none] := by
  rw [callF_succ (d := d6) rfl]
  unfold bodyF d6 c6
  simp [runs, PI.run, ev, eva, evs, bd, ofO, rdS, ard, ardD, truM, truth, outsOf, finF, startE, ioOk, asgT, cx_T, cx_F, q_eq, ow_int, fr_int, h1.ow, h2.ow, h3.ow, h1.fr, h2.fr, h3.fr, T_1, k1]
theorem r1_6 {n : Nat} {v1 v2 v3 : D} (h1 : Fz v1) (h2 : Fz v2) (h3 : Fz v3) : callF tx.T tx.gv tx.tb (n + 1) 6 [.int 1, v1, v2, v3] = .exc (.exc 2 [v1, v2]) [none, none, none, none] := by
  rw [callF_succ (d := d6) rfl]
  unfold bodyF d6 c6
  simp [runs, PI.run, ev, eva, evs, bd, ofO, rdS, ard, ardD, truM, truth, outsOf, finF, startE, ioOk, asgT, cx_T, cx_F, q_eq, ow_int, fr_int, h1.ow, h2.ow, h3.ow, h1.fr, h2.fr, h3.fr, T_2, k2]
theorem r2_6 {n : Nat} {v1 v2 v3 : D} (h1 : Fz v1) (h2 : Fz v2) (h3 : Fz v3) : callF tx.T tx.gv tx.tb (n + 1) 6 [.int 2, v1, v2, v3] = .exc (.exc 3 [v1]) [none, none, none, none] := by
  rw [callF_succ (d := d6) rfl]
  unfold bodyF d6 c6
  simp [runs, PI.run, ev, eva, evs, bd, ofO, rdS, ard, ardD, truM, truth, outsOf, finF, startE, ioOk, asgT, cx_T, cx_F, q_eq, ow_int, fr_int, h1.ow, h2.ow, h3.ow, h1.fr, h2.fr, h3.fr, T_3, k3]
theorem r3_6 {n : Nat} {v1 v2 v3 : D} (h1 : Fz v1) (h2 : Fz v2) (h3 : Fz v3) : callF tx.T tx.gv tx.tb (n + 1) 6 [.int 3, v1, v2, v3] = .exc (.exc 4 [v1]) [none, none, none, none] := by
  rw [callF_succ (d := d6) rfl]
  unfold bodyF d6 c6
  simp [runs, PI.run, ev, eva, evs, bd, ofO, rdS, ard, ardD, truM, truth, outsOf, finF, startE, ioOk, asgT, cx_T, cx_F, q_eq, ow_int, fr_int, h1.ow, h2.ow, h3.ow, h1.fr, h2.fr, h3.fr, T_4, k4]
theorem r4_6 {n : Nat} {v1 v2 v3 : D} (h1 : Fz v1) (h2 : Fz v2) (h3 : Fz v3) : callF tx.T tx.gv tx.tb (n + 1) 6 [.int 4, v1, v2, v3] = .exc (.exc 5 [v1]) [none, none, none, none] := by
  rw [callF_succ (d := d6) rfl]
  unfold bodyF d6 c6
  simp [runs, PI.run, ev, eva, evs, bd, ofO, rdS, ard, ardD, truM, truth, outsOf, finF, startE, ioOk, asgT, cx_T, cx_F, q_eq, ow_int, fr_int, h1.ow, h2.ow, h3.ow, h1.fr, h2.fr, h3.fr, T_5, k5]
theorem r5_6 {n : Nat} {v1 v2 v3 : D} (h1 : Fz v1) (h2 : Fz v2) (h3 : Fz v3) : callF tx.T tx.gv tx.tb (n + 1) 6 [.int 5, v1, v2, v3] = .exc (.exc 6 [v1]) [none, none, none, none] := by
  rw [callF_succ (d := d6) rfl]
  unfold bodyF d6 c6
  simp [runs, PI.run, ev, eva, evs, bd, ofO, rdS, ard, ardD, truM, truth, outsOf, finF, startE, ioOk, asgT, cx_T, cx_F, q_eq, ow_int, fr_int, h1.ow, h2.ow, h3.ow, h1.fr, h2.fr, h3.fr, T_6, k6]
theorem r6_6 {n : Nat} {v1 v2 v3 : D} (h1 : Fz v1) (h2 : Fz v2) (h3 : Fz v3) : callF tx.T tx.gv tx.tb (n + 1) 6 [.int 6, v1, v2, v3] = .exc (.exc 7 [v1]) [none, none, none, none] := by
  rw [callF_succ (d := d6) rfl]
  unfold bodyF d6 c6
  simp [runs, PI.run, ev, eva, evs, bd, ofO, rdS, ard, ardD, truM, truth, outsOf, finF, startE, ioOk, asgT, cx_T, cx_F, q_eq, ow_int, fr_int, h1.ow, h2.ow, h3.ow, h1.fr, h2.fr, h3.fr, T_7, k7]
theorem r7_6 {n : Nat} {v1 v2 v3 : D} (h1 : Fz v1) (h2 : Fz v2) (h3 : Fz v3) : callF tx.T tx.gv tx.tb (n + 1) 6 [.int 7, v1, v2, v3] = .ok .non [none, none, none, none] := by
  rw [callF_succ (d := d6) rfl]
  unfold bodyF d6 c6
  simp [runs, PI.run, ev, eva, evs, bd, ofO, rdS, ard, ardD, truM, truth, outsOf, finF, startE, ioOk, asgT, cx_T, cx_F, q_eq, ow_int, fr_int, h1.ow, h2.ow, h3.ow, h1.fr, h2.fr, h3.fr, T_8, k8]
theorem r8_6 {n : Nat} {v1 v2 v3 : D} (h1 : Fz v1) (h2 : Fz v2) (h3 : Fz v3) : callF tx.T tx.gv tx.tb (n + 1) 6 [.int 8, v1, v2, v3] = .ok .non [none, none, none, none] := by
  rw [callF_succ (d := d6) rfl]
  unfold bodyF d6 c6
  simp [runs, PI.run, ev, eva, evs, bd, ofO, rdS, ard, ardD, truM, truth, outsOf, finF, startE, ioOk, asgT, cx_T, cx_F, q_eq, ow_int, fr_int, h1.ow, h2.ow, h3.ow, h1.fr, h2.fr, h3.fr, T_9, k9]
theorem r9_6 {n : Nat} {v1 v2 v3 : D} (h1 : Fz v1) (h2 : Fz v2) (h3 : Fz v3) : callF tx.T tx.gv tx.tb (n + 1) 6 [.int 9, v1, v2, v3] = .ok .non [none, none, none, none] := by
  rw [callF_succ (d := d6) rfl]
  unfold bodyF d6 c6
  simp [runs, PI.run, ev, eva, evs, bd, ofO, rdS, ard, ardD, truM, truth, outsOf, finF, startE, ioOk, asgT, cx_T, cx_F, q_eq, ow_int, fr_int, h1.ow, h2.ow, h3.ow, h1.fr, h2.fr, h3.fr, T_10, k10]
theorem r10_6 {n : Nat} {v1 v2 v3 : D} (h1 : Fz v1) (h2 : Fz v2) (h3 : Fz v3) : callF tx.T tx.gv tx.tb (n + 1) 6 [.int 10, v1, v2, v3] = .ok .non [none, none, none, none] := by
  rw [callF_succ (d := d6) rfl]
  unfold bodyF d6 c6
  simp [runs, PI.run, ev, eva, evs, bd, ofO, rdS, ard, ardD, truM, truth, outsOf, finF, startE, ioOk, asgT, cx_T, cx_F, q_eq, ow_int, fr_int, h1.ow, h2.ow, h3.ow, h1.fr, h2.fr, h3.fr, T_11, k11]
theorem r11_6 {n : Nat} {v1 v2 v3 : D} (h1 : Fz v1) (h2 : Fz v2) (h3 : Fz v3) : callF tx.T tx.gv tx.tb (n + 1) 6 [.int 11, v1, v2, v3] = .ok .non [none, none, none, none] := by
  rw [callF_succ (d := d6) rfl]
  unfold bodyF d6 c6
  simp [runs, PI.run, ev, eva, evs, bd, ofO, rdS, ard, ardD, truM, truth, outsOf, finF, startE, ioOk, asgT, cx_T, cx_F, q_eq, ow_int, fr_int, h1.ow, h2.ow, h3.ow, h1.fr, h2.fr, h3.fr, T_12, k12]
theorem r12_6 {n : Nat} {v1 v2 v3 : D} (h1 : Fz v1) (h2 : Fz v2) (h3 : Fz v3) : callF tx.T tx.gv tx.tb (n + 1) 6 [.int 12, v1, v2, v3] = .ok .non [none, none, none, none] := by
  rw [callF_succ (d := d6) rfl]
  unfold bodyF d6 c6
  simp [runs, PI.run, ev, eva, evs, bd, ofO, rdS, ard, ardD, truM, truth, outsOf, finF, startE, ioOk, asgT, cx_T, cx_F, q_eq, ow_int, fr_int, h1.ow, h2.ow, h3.ow, h1.fr, h2.fr, h3.fr, T_13, k13]
theorem r13_6 {n : Nat} {v1 v2 v3 : D} (h1 : Fz v1) (h2 : Fz v2) (h3 : Fz v3) : callF tx.T tx.gv tx.tb (n + 1) 6 [.int 13, v1, v2, v3] = .ok .non [none, none, none, none] := by
  rw [callF_succ (d := d6) rfl]
  unfold bodyF d6 c6
  simp [runs, PI.run, ev, eva, evs, bd, ofO, rdS, ard, ardD, truM, truth, outsOf, finF, startE, ioOk, asgT, cx_T, cx_F, q_eq, ow_int, fr_int, h1.ow, h2.ow, h3.ow, h1.fr, h2.fr, h3.fr, T_14, k14]
theorem r14_6 {n : Nat} {v1 v2 v3 : D} (h1 : Fz v1) (h2 : Fz v2) (h3 : Fz v3) : callF tx.T tx.gv tx.tb (n + 1) 6 [.int 14, v1, v2, v3] = .ok .non [none, none, none, none] := by
  rw [callF_succ (d := d6) rfl]
  unfold bodyF d6 c6
  simp [runs, PI.run, ev, eva, evs, bd, ofO, rdS, ard, ardD, truM, truth, outsOf, finF, startE, ioOk, asgT, cx_T, cx_F, q_eq, ow_int, fr_int, h1.ow, h2.ow, h3.ow, h1.fr, h2.fr, h3.fr, T_15, k15]
theorem r15_6 {n : Nat} {v1 v2 v3 : D} (h1 : Fz v1) (h2 : Fz v2) (h3 : Fz v3) : callF tx.T tx.gv tx.tb (n + 1) 6 [.int 15, v1, v2, v3] = .ok .non [none, none, none, none] := by
  rw [callF_succ (d := d6) rfl]
  unfold bodyF d6 c6
  simp [runs, PI.run, ev, eva, evs, bd, ofO, rdS, ard, ardD, truM, truth, outsOf, finF, startE, ioOk, asgT, cx_T, cx_F, q_eq, ow_int, fr_int, h1.ow, h2.ow, h3.ow, h1.fr, h2.fr, h3.fr, T_16, k16]
theorem r16_6 {n : Nat} {v1 v2 v3 : D} (h1 : Fz v1) (h2 : Fz v2) (h3 : Fz v3) : callF tx.T tx.gv tx.tb (n + 1) 6 [.int 16, v1, v2, v3] = .ok .non [none, none, none, none] := by
  rw [callF_succ (d := d6) rfl]
  unfold bodyF d6 c6
  simp [runs, PI.run, ev, eva, evs, bd, ofO, rdS, ard, ardD, truM, truth, outsOf, finF, startE, ioOk, asgT, cx_T, cx_F, q_eq, ow_int, fr_int, h1.ow, h2.ow, h3.ow, h1.fr, h2.fr, h3.fr, T_17, k17]
theorem r7_7 {n : Nat} {v1 v2 v3 : D} (h1 : Fz v1) (h2 : Fz v2) (h3 : Fz v3) : callF tx.T tx.gv tx.tb (n + 1) 7 [.int 7, v1, v2, v3] = .exc (.exc 8 [v1, v2]) [none, none, none, none] := by
  rw [callF_succ (d := d7) rfl]
  unfold bodyF d7 c7
  simp [runs, PI.run, ev, eva, evs, bd, ofO, rdS, ard, ardD, truM, truth, outsOf, finF, startE, ioOk, asgT, cx_T, cx_F, q_eq, ow_int, fr_int, h1.ow, h2.ow, h3.ow, h1.fr, h2.fr, h3.fr, T_8, k8]
theorem r8_7 {n : Nat} {v1 v2 v3 : D} (h1 : Fz v1) (h2 : Fz v2) (h3 : Fz v3) : callF tx.T tx.gv tx.tb (n + 1) 7 [.int 8, v1, v2, v3] = .exc (.exc 9 [v1, v2]) [none, none, none, none] := by
  rw [callF_succ (d := d7) rfl]
  unfold bodyF d7 c7
  simp [runs, PI.run, ev, eva, evs, bd, ofO, rdS, ard, ardD, truM, truth, outsOf, finF, startE, ioOk, asgT, cx_T, cx_F, q_eq, ow_int, fr_int, h1.ow, h2.ow, h3.ow, h1.fr, h2.fr, h3.fr, T_9, k9]
theorem r9_7 {n : Nat} {v1 v2 v3 : D} (h1 : Fz v1) (h2 : Fz v2) (h3 : Fz v3) : callF tx.T tx.gv tx.tb (n + 1) 7 [.int 9, v1, v2, v3] = .exc (.exc 10 [v1]) [none, none, none, none] := by
  rw [callF_succ (d := d7) rfl]
  unfold bodyF d7 c7
  simp [runs, PI.run, ev, eva, evs, bd, ofO, rdS, ard, ardD, truM, truth, outsOf, finF, startE, ioOk, asgT, cx_T, cx_F, q_eq, ow_int, fr_int, h1.ow, h2.ow, h3.ow, h1.fr, h2.fr, h3.fr, T_10, k10]
theorem r10_7 {n : Nat} {v1 v2 v3 : D} (h1 : Fz v1) (h2 : Fz v2) (h3 : Fz v3) : callF tx.T tx.gv tx.tb (n + 1) 7 [.int 10, v1, v2, v3] = .exc (.exc 11 [v1]) [none, none, none, none] := by
  rw [callF_succ (d := d7) rfl]
  unfold bodyF d7 c7
  simp [runs, PI.run, ev, eva, evs, bd, ofO, rdS, ard, ardD, truM, truth, outsOf, finF, startE, ioOk, asgT, cx_T, cx_F, q_eq, ow_int, fr_int, h1.ow, h2.ow, h3.ow, h1.fr, h2.fr, h3.fr, T_11, k11]
theorem r11_7 {n : Nat} {v1 v2 v3 : D} (h1 : Fz v1) (h2 : Fz v2) (h3 : Fz v3) : callF tx.T tx.gv tx.tb (n + 1) 7 [.int 11, v1, v2, v3] = .exc (.exc 12 [v1]) [none, none, none, none] := by
  rw [callF_succ (d := d7) rfl]
  unfold bodyF d7 c7
  simp [runs, PI.run, ev, eva, evs, bd, ofO, rdS, ard, ardD, truM, truth, outsOf, finF, startE, ioOk, asgT, cx_T, cx_F, q_eq, ow_int, fr_int, h1.ow, h2.ow, h3.ow, h1.fr, h2.fr, h3.fr, T_12, k12]
theorem r12_7 {n : Nat} {v1 v2 v3 : D} (h1 : Fz v1) (h2 : Fz v2) (h3 : Fz v3) : callF tx.T tx.gv tx.tb (n + 1) 7 [.int 12, v1, v2, v3] = .exc (.exc 13 [v1]) [none, none, none, none] := by
  rw [callF_succ (d := d7) rfl]
  unfold bodyF d7 c7
  simp [runs, PI.run, ev, eva, evs, bd, ofO, rdS, ard, ardD, truM, truth, outsOf, finF, startE, ioOk, asgT, cx_T, cx_F, q_eq, ow_int, fr_int, h1.ow, h2.ow, h3.ow, h1.fr, h2.fr, h3.fr, T_13, k13]
theorem r13_7 {n : Nat} {v1 v2 v3 : D} (h1 : Fz v1) (h2 : Fz v2) (h3 : Fz v3) : callF tx.T tx.gv tx.tb (n + 1) 7 [.int 13, v1, v2, v3] = .exc (.exc 14 [v1, v2, v3]) [none, none, none, none] := by
  rw [callF_succ (d := d7) rfl]
  unfold bodyF d7 c7
  simp [runs, PI.run, ev, eva, evs, bd, ofO, rdS, ard, ardD, truM, truth, outsOf, finF, startE, ioOk, asgT, cx_T, cx_F, q_eq, ow_int, fr_int, h1.ow, h2.ow, h3.ow, h1.fr, h2.fr, h3.fr, T_14, k14]
theorem r14_7 {n : Nat} {v1 v2 v3 : D} (h1 : Fz v1) (h2 : Fz v2) (h3 : Fz v3) : callF tx.T tx.gv tx.tb (n + 1) 7 [.int 14, v1, v2, v3] = .ok .non [none, none, none, none] := by
  rw [callF_succ (d := d7) rfl]
  unfold bodyF d7 c7
  simp [runs, PI.run, ev, eva, evs, bd, ofO, rdS, ard, ardD, truM, truth, outsOf, finF, startE, ioOk, asgT, cx_T, cx_F, q_eq, ow_int, fr_int, h1.ow, h2.ow, h3.ow, h1.fr, h2.fr, h3.fr, T_15, k15]
theorem r15_7 {n : Nat} {v1 v2 v3 : D} (h1 : Fz v1) (h2 : Fz v2) (h3 : Fz v3) : callF tx.T tx.gv tx.tb (n + 1) 7 [.int 15, v1, v2, v3] = .ok .non [none, none, none, none] := by
  rw [callF_succ (d := d7) rfl]
  unfold bodyF d7 c7
  simp [runs, PI.run, ev, eva, evs, bd, ofO, rdS, ard, ardD, truM, truth, outsOf, finF, startE, ioOk, asgT, cx_T, cx_F, q_eq, ow_int, fr_int, h1.ow, h2.ow, h3.ow, h1.fr, h2.fr, h3.fr, T_16, k16]
theorem r16_7 {n : Nat} {v1 v2 v3 : D} (h1 : Fz v1) (h2 : Fz v2) (h3 : Fz v3) : callF tx.T tx.gv tx.tb (n + 1) 7 [.int 16, v1, v2, v3] = .ok .non [none, none, none, none] := by
  rw [callF_succ (d := d7) rfl]
  unfold bodyF d7 c7
  simp [runs, PI.run, ev, eva, evs, bd, ofO, rdS, ard, ardD, truM, truth, outsOf, finF, startE, ioOk, asgT, cx_T, cx_F, q_eq, ow_int, fr_int, h1.ow, h2.ow, h3.ow, h1.fr, h2.fr, h3.fr, T_17, k17]
theorem r14_8 {n : Nat} {v1 v2 v3 : D} (h1 : Fz v1) (h2 : Fz v2) (h3 : Fz v3) : callF tx.T tx.gv tx.tb (n + 1) 8 [.int 14, v1, v2, v3] = .exc (.exc 15 [v1, v2]) [none, none, none, none] := by
  rw [callF_succ (d := d8) rfl]
  unfold bodyF d8 c8
  simp [runs, PI.run, ev, eva, evs, bd, ofO, rdS, ard, ardD, truM, truth, outsOf, finF, startE, ioOk, asgT, cx_T, cx_F, q_eq, ow_int, fr_int, h1.ow, h2.ow, h3.ow, h1.fr, h2.fr, h3.fr, T_15, k15]
theorem r15_8 {n : Nat} {v1 v2 v3 : D} (h1 : Fz v1) (h2 : Fz v2) (h3 : Fz v3) : callF tx.T tx.gv tx.tb (n + 1) 8 [.int 15, v1, v2, v3] = .exc (.exc 16 []) [none, none, none, none] := by
  rw [callF_succ (d := d8) rfl]
  unfold bodyF d8 c8
  simp [runs, PI.run, ev, eva, evs, bd, ofO, rdS, ard, ardD, truM, truth, outsOf, finF, startE, ioOk, asgT, cx_T, cx_F, q_eq, ow_int, fr_int, h1.ow, h2.ow, h3.ow, h1.fr, h2.fr, h3.fr, T_16, k16]
theorem r16_8 {n : Nat} {v1 v2 v3 : D} (h1 : Fz v1) (h2 : Fz v2) (h3 : Fz v3) : callF tx.T tx.gv tx.tb (n + 1) 8 [.int 16, v1, v2, v3] = .exc (.exc 17 []) [none, none, none, none] := by
  rw [callF_succ (d := d8) rfl]
  unfold bodyF d8 c8
  simp [runs, PI.run, ev, eva, evs, bd, ofO, rdS, ard, ardD, truM, truth, outsOf, finF, startE, ioOk, asgT, cx_T, cx_F, q_eq, ow_int, fr_int, h1.ow, h2.ow, h3.ow, h1.fr, h2.fr, h3.fr, T_17, k17]
theorem m0 {n : Nat} {v1 v2 v3 : D} {s1 s2 s3 : Str} (h1 : Fz v1) (h2 : Fz v2) (h3 : Fz v3) (e1 : reprD v1 = some s1) (e2 : reprD v2 = some s2) (e3 : reprD v3 = some s3) : callF tx.T tx.gv tx.tb (n + 1) 4 [.exc 1 [v1, v2]] = .ok (.lst true []) [none] := by
  rw [callF_succ (d := d4) rfl]
  unfold bodyF d4 c4
  simp [runs, PI.run, ev, eva, evs, bd, ofO, rdS, ard, ardD, truM, truth, outsOf, finF, startE, ioOk, asgT, cx_T, cx_F, isLst, setSlot, appD, q_isiX, at_1_what, at_1_number, q_repr, e1, e2, e3, ow_exc, fr_exc, ow_lst, fr_lst, ow_str, fr_str, fr_tup, h1.ow, h2.ow, h3.ow, h1.fr, h2.fr, h3.fr]
theorem o0 {n : Nat} {v1 v2 v3 : D} {s1 s2 s3 : Str} (h1 : Fz v1) (h2 : Fz v2) (h3 : Fz v3) (e1 : reprD v1 = some s1) (e2 : reprD v2 = some s2) (e3 : reprD v3 = some s3) : callF tx.T tx.gv tx.tb (n + 2) 3 [.exc 1 [v1, v2]] = .ok (.lst true [.tup [.str "number", v1, .str s2]]) [none] := by
  have e := m0 (n := n) h1 h2 h3 e1 e2 e3
  rw [callF_succ (d := d3) rfl]
  unfold bodyF d3 c3
  simp [runs, PI.run, ev, eva, evs, bd, ofO, rdS, ard, ardD, truM, truth, outsOf, finF, startE, ioOk, asgT, cx_T, cx_F, arc, callR, putB, okIo, noIx, lentB, isLst, setSlot, appD, q_addL, ln1, q_isiX, at_1_what, at_1_number, q_repr, e1, e2, e3, e, ow_exc, fr_exc, ow_lst, fr_lst, ow_str, fr_str, fr_tup, h1.ow, h2.ow, h3.ow, h1.fr, h2.fr, h3.fr]
theorem told0 {n : Nat} {v1 v2 v3 : D} {s1 s2 s3 : Str} (h1 : Fz v1) (h2 : Fz v2) (h3 : Fz v3) (e1 : reprD v1 = some s1) (e2 : reprD v2 = some s2) (e3 : reprD v3 = some s3) : callF tx.T tx.gv tx.tb (n + 3) 9 [.int 0, v1, v2, v3] = .ok (.lst false [.tup [.str "number", v1, .str s2]]) [none, none, none, none] := by
  have e := o0 (n := n) h1 h2 h3 e1 e2 e3
  have f0 := r0_6 (n := n + 1) h1 h2 h3
  rw [callF_succ (d := d9) rfl]
  unfold bodyF d9 c9
  simp [runs, PI.run, ev, eva, evs, bd, ofO, rdS, ard, ardD, truM, truth, outsOf, finF, startE, ioOk, asgT, cx_T, cx_F, arc, callR, putB, okIo, noIx, lentB, q_isiV, sub_0, noXe, noXf, D.noX, D.noXs, f0, e, ow_non, fr_non, ow_int, fr_int, ow_exc, fr_exc, ow_lst, fr_lst, ow_str, fr_str, fr_tup, h1.ow, h2.ow, h3.ow, h1.fr, h2.fr, h3.fr, h1.nx, h2.nx, h3.nx]
theorem due0 {n : Nat} {v1 v2 v3 : D} {s1 s2 s3 : Str} (h1 : Fz v1) (h2 : Fz v2) (h3 : Fz v3) (e1 : reprD v1 = some s1) (e2 : reprD v2 = some s2) (e3 : reprD v3 = some s3) : callF tx.T tx.gv tx.tb (n + 1) 10 [.int 0, v1, v2, v3] = .ok (.tup [.str "number", v1, .str s2]) [none, none, none, none] := by
  have i0 : pr tx.T .isin [.int 0, .tup [.int 0, .int 1, .int 8]] = some (.bl true) := by rfl
  have i1 : pr tx.T .isin [.int 0, .tup [.int 2, .int 3, .int 4, .int 5, .int 11, .int 12]] = some (.bl false) := by rfl
  have i2 : pr tx.T .isin [.int 0, .tup [.int 6, .int 9, .int 10]] = some (.bl false) := by rfl
  have i3 : pr tx.T .isin [.int 0, .tup [.int 7, .int 14]] = some (.bl false) := by rfl
  have wd : pr tx.T .idx [.lst false [.str "number", .str "row", .str "table", .str "poly", .str "base", .str "book", .str "badname", .str "text", .str "place", .str "noname", .str "taken", .str "unlike", .str "notthere", .str "many", .str "kept", .str "undo", .str "redo"], .int 0] = some (.str "number") := by rfl
  have ad : pr tx.T .add [.lst false [.str "number", .str "row", .str "table", .str "poly", .str "base", .str "book", .str "badname", .str "text", .str "place"], .lst false [.str "noname", .str "taken", .str "unlike", .str "notthere", .str "many", .str "kept", .str "undo", .str "redo"]] = some (.lst true [.str "number", .str "row", .str "table", .str "poly", .str "base", .str "book", .str "badname", .str "text", .str "place", .str "noname", .str "taken", .str "unlike", .str "notthere", .str "many", .str "kept", .str "undo", .str "redo"]) := by rfl
  rw [callF_succ (d := d10) rfl]
  unfold bodyF d10 c10
  simp [runs, PI.run, ev, eva, evs, bd, ofO, rdS, ard, ardD, truM, truth, outsOf, finF, startE, ioOk, asgT, cx_T, cx_F, ad, wd, i0, i1, i2, i3, q_eq, q_repr, e1, e2, e3, ow_int, fr_int, ow_lst, fr_lst, ow_str, fr_str, ow_tup, fr_tup, h1.ow, h2.ow, h3.ow, h1.fr, h2.fr, h3.fr]
theorem m1 {n : Nat} {v1 v2 v3 : D} {s1 s2 s3 : Str} (h1 : Fz v1) (h2 : Fz v2) (h3 : Fz v3) (e1 : reprD v1 = some s1) (e2 : reprD v2 = some s2) (e3 : reprD v3 = some s3) : callF tx.T tx.gv tx.tb (n + 1) 4 [.exc 2 [v1, v2]] = .ok (.lst true []) [none] := by
  rw [callF_succ (d := d4) rfl]
  unfold bodyF d4 c4
  simp [runs, PI.run, ev, eva, evs, bd, ofO, rdS, ard, ardD, truM, truth, outsOf, finF, startE, ioOk, asgT, cx_T, cx_F, isLst, setSlot, appD, q_isiX, at_2_what, at_2_row, q_repr, e1, e2, e3, ow_exc, fr_exc, ow_lst, fr_lst, ow_str, fr_str, fr_tup, h1.ow, h2.ow, h3.ow, h1.fr, h2.fr, h3.fr]
theorem o1 {n : Nat} {v1 v2 v3 : D} {s1 s2 s3 : Str} (h1 : Fz v1) (h2 : Fz v2) (h3 : Fz v3) (e1 : reprD v1 = some s1) (e2 : reprD v2 = some s2) (e3 : reprD v3 = some s3) : callF tx.T tx.gv tx.tb (n + 2) 3 [.exc 2 [v1, v2]] = .ok (.lst true [.tup [.str "row", v1, .str s2]]) [none] := by
  have e := m1 (n := n) h1 h2 h3 e1 e2 e3
  rw [callF_succ (d := d3) rfl]
  unfold bodyF d3 c3
  simp [runs, PI.run, ev, eva, evs, bd, ofO, rdS, ard, ardD, truM, truth, outsOf, finF, startE, ioOk, asgT, cx_T, cx_F, arc, callR, putB, okIo, noIx, lentB, isLst, setSlot, appD, q_addL, ln1, q_isiX, at_2_what, at_2_row, q_repr, e1, e2, e3, e, ow_exc, fr_exc, ow_lst, fr_lst, ow_str, fr_str, fr_tup, h1.ow, h2.ow, h3.ow, h1.fr, h2.fr, h3.fr]
theorem told1 {n : Nat} {v1 v2 v3 : D} {s1 s2 s3 : Str} (h1 : Fz v1) (h2 : Fz v2) (h3 : Fz v3) (e1 : reprD v1 = some s1) (e2 : reprD v2 = some s2) (e3 : reprD v3 = some s3) : callF tx.T tx.gv tx.tb (n + 3) 9 [.int 1, v1, v2, v3] = .ok (.lst false [.tup [.str "row", v1, .str s2]]) [none, none, none, none] := by
  have e := o1 (n := n) h1 h2 h3 e1 e2 e3
  have f0 := r1_6 (n := n + 1) h1 h2 h3
  rw [callF_succ (d := d9) rfl]
  unfold bodyF d9 c9
  simp [runs, PI.run, ev, eva, evs, bd, ofO, rdS, ard, ardD, truM, truth, outsOf, finF, startE, ioOk, asgT, cx_T, cx_F, arc, callR, putB, okIo, noIx, lentB, q_isiV, sub_0, noXe, noXf, D.noX, D.noXs, f0, e, ow_non, fr_non, ow_int, fr_int, ow_exc, fr_exc, ow_lst, fr_lst, ow_str, fr_str, fr_tup, h1.ow, h2.ow, h3.ow, h1.fr, h2.fr, h3.fr, h1.nx, h2.nx, h3.nx]
theorem due1 {n : Nat} {v1 v2 v3 : D} {s1 s2 s3 : Str} (h1 : Fz v1) (h2 : Fz v2) (h3 : Fz v3) (e1 : reprD v1 = some s1) (e2 : reprD v2 = some s2) (e3 : reprD v3 = some s3) : callF tx.T tx.gv tx.tb (n + 1) 10 [.int 1, v1, v2, v3] = .ok (.tup [.str "row", v1, .str s2]) [none, none, none, none] := by
  have i0 : pr tx.T .isin [.int 1, .tup [.int 0, .int 1, .int 8]] = some (.bl true) := by rfl
  have i1 : pr tx.T .isin [.int 1, .tup [.int 2, .int 3, .int 4, .int 5, .int 11, .int 12]] = some (.bl false) := by rfl
  have i2 : pr tx.T .isin [.int 1, .tup [.int 6, .int 9, .int 10]] = some (.bl false) := by rfl
  have i3 : pr tx.T .isin [.int 1, .tup [.int 7, .int 14]] = some (.bl false) := by rfl
  have wd : pr tx.T .idx [.lst false [.str "number", .str "row", .str "table", .str "poly", .str "base", .str "book", .str "badname", .str "text", .str "place", .str "noname", .str "taken", .str "unlike", .str "notthere", .str "many", .str "kept", .str "undo", .str "redo"], .int 1] = some (.str "row") := by rfl
  have ad : pr tx.T .add [.lst false [.str "number", .str "row", .str "table", .str "poly", .str "base", .str "book", .str "badname", .str "text", .str "place"], .lst false [.str "noname", .str "taken", .str "unlike", .str "notthere", .str "many", .str "kept", .str "undo", .str "redo"]] = some (.lst true [.str "number", .str "row", .str "table", .str "poly", .str "base", .str "book", .str "badname", .str "text", .str "place", .str "noname", .str "taken", .str "unlike", .str "notthere", .str "many", .str "kept", .str "undo", .str "redo"]) := by rfl
  rw [callF_succ (d := d10) rfl]
  unfold bodyF d10 c10
  simp [runs, PI.run, ev, eva, evs, bd, ofO, rdS, ard, ardD, truM, truth, outsOf, finF, startE, ioOk, asgT, cx_T, cx_F, ad, wd, i0, i1, i2, i3, q_eq, q_repr, e1, e2, e3, ow_int, fr_int, ow_lst, fr_lst, ow_str, fr_str, ow_tup, fr_tup, h1.ow, h2.ow, h3.ow, h1.fr, h2.fr, h3.fr]
theorem m2 {n : Nat} {v1 v2 v3 : D} {s1 s2 s3 : Str} (h1 : Fz v1) (h2 : Fz v2) (h3 : Fz v3) (e1 : reprD v1 = some s1) (e2 : reprD v2 = some s2) (e3 : reprD v3 = some s3) : callF tx.T tx.gv tx.tb (n + 1) 4 [.exc 3 [v1]] = .ok (.lst true []) [none] := by
  rw [callF_succ (d := d4) rfl]
  unfold bodyF d4 c4
  simp [runs, PI.run, ev, eva, evs, bd, ofO, rdS, ard, ardD, truM, truth, outsOf, finF, startE, ioOk, asgT, cx_T, cx_F, isLst, setSlot, appD, q_isiX, at_3_what, q_repr, e1, e2, e3, ow_exc, fr_exc, ow_lst, fr_lst, ow_str, fr_str, fr_tup, h1.ow, h2.ow, h3.ow, h1.fr, h2.fr, h3.fr]
theorem o2 {n : Nat} {v1 v2 v3 : D} {s1 s2 s3 : Str} (h1 : Fz v1) (h2 : Fz v2) (h3 : Fz v3) (e1 : reprD v1 = some s1) (e2 : reprD v2 = some s2) (e3 : reprD v3 = some s3) : callF tx.T tx.gv tx.tb (n + 2) 3 [.exc 3 [v1]] = .ok (.lst true [.tup [.str "table", v1]]) [none] := by
  have e := m2 (n := n) h1 h2 h3 e1 e2 e3
  rw [callF_succ (d := d3) rfl]
  unfold bodyF d3 c3
  simp [runs, PI.run, ev, eva, evs, bd, ofO, rdS, ard, ardD, truM, truth, outsOf, finF, startE, ioOk, asgT, cx_T, cx_F, arc, callR, putB, okIo, noIx, lentB, isLst, setSlot, appD, q_addL, ln1, q_isiX, at_3_what, q_repr, e1, e2, e3, e, ow_exc, fr_exc, ow_lst, fr_lst, ow_str, fr_str, fr_tup, h1.ow, h2.ow, h3.ow, h1.fr, h2.fr, h3.fr]
theorem told2 {n : Nat} {v1 v2 v3 : D} {s1 s2 s3 : Str} (h1 : Fz v1) (h2 : Fz v2) (h3 : Fz v3) (e1 : reprD v1 = some s1) (e2 : reprD v2 = some s2) (e3 : reprD v3 = some s3) : callF tx.T tx.gv tx.tb (n + 3) 9 [.int 2, v1, v2, v3] = .ok (.lst false [.tup [.str "table", v1]]) [none, none, none, none] := by
  have e := o2 (n := n) h1 h2 h3 e1 e2 e3
  have f0 := r2_6 (n := n + 1) h1 h2 h3
  rw [callF_succ (d := d9) rfl]
  unfold bodyF d9 c9
  simp [runs, PI.run, ev, eva, evs, bd, ofO, rdS, ard, ardD, truM, truth, outsOf, finF, startE, ioOk, asgT, cx_T, cx_F, arc, callR, putB, okIo, noIx, lentB, q_isiV, sub_0, noXe, noXf, D.noX, D.noXs, f0, e, ow_non, fr_non, ow_int, fr_int, ow_exc, fr_exc, ow_lst, fr_lst, ow_str, fr_str, fr_tup, h1.ow, h2.ow, h3.ow, h1.fr, h2.fr, h3.fr, h1.nx, h2.nx, h3.nx]
theorem due2 {n : Nat} {v1 v2 v3 : D} {s1 s2 s3 : Str} (h1 : Fz v1) (h2 : Fz v2) (h3 : Fz v3) (e1 : reprD v1 = some s1) (e2 : reprD v2 = some s2) (e3 : reprD v3 = some s3) : callF tx.T tx.gv tx.tb (n + 1) 10 [.int 2, v1, v2, v3] = .ok (.tup [.str "table", v1]) [none, none, none, none] := by
  have i0 : pr tx.T .isin [.int 2, .tup [.int 0, .int 1, .int 8]] = some (.bl false) := by rfl
  have i1 : pr tx.T .isin [.int 2, .tup [.int 2, .int 3, .int 4, .int 5, .int 11, .int 12]] = some (.bl true) := by rfl
  have i2 : pr tx.T .isin [.int 2, .tup [.int 6, .int 9, .int 10]] = some (.bl false) := by rfl
  have i3 : pr tx.T .isin [.int 2, .tup [.int 7, .int 14]] = some (.bl false) := by rfl
  have wd : pr tx.T .idx [.lst false [.str "number", .str "row", .str "table", .str "poly", .str "base", .str "book", .str "badname", .str "text", .str "place", .str "noname", .str "taken", .str "unlike", .str "notthere", .str "many", .str "kept", .str "undo", .str "redo"], .int 2] = some (.str "table") := by rfl
  have ad : pr tx.T .add [.lst false [.str "number", .str "row", .str "table", .str "poly", .str "base", .str "book", .str "badname", .str "text", .str "place"], .lst false [.str "noname", .str "taken", .str "unlike", .str "notthere", .str "many", .str "kept", .str "undo", .str "redo"]] = some (.lst true [.str "number", .str "row", .str "table", .str "poly", .str "base", .str "book", .str "badname", .str "text", .str "place", .str "noname", .str "taken", .str "unlike", .str "notthere", .str "many", .str "kept", .str "undo", .str "redo"]) := by rfl
  rw [callF_succ (d := d10) rfl]
  unfold bodyF d10 c10
  simp [runs, PI.run, ev, eva, evs, bd, ofO, rdS, ard, ardD, truM, truth, outsOf, finF, startE, ioOk, asgT, cx_T, cx_F, ad, wd, i0, i1, i2, i3, q_eq, q_repr, e1, e2, e3, ow_int, fr_int, ow_lst, fr_lst, ow_str, fr_str, ow_tup, fr_tup, h1.ow, h2.ow, h3.ow, h1.fr, h2.fr, h3.fr]
theorem m3 {n : Nat} {v1 v2 v3 : D} {s1 s2 s3 : Str} (h1 : Fz v1) (h2 : Fz v2) (h3 : Fz v3) (e1 : reprD v1 = some s1) (e2 : reprD v2 = some s2) (e3 : reprD v3 = some s3) : callF tx.T tx.gv tx.tb (n + 1) 4 [.exc 4 [v1]] = .ok (.lst true []) [none] := by
  rw [callF_succ (d := d4) rfl]
  unfold bodyF d4 c4
  simp [runs, PI.run, ev, eva, evs, bd, ofO, rdS, ard, ardD, truM, truth, outsOf, finF, startE, ioOk, asgT, cx_T, cx_F, isLst, setSlot, appD, q_isiX, at_4_what, q_repr, e1, e2, e3, ow_exc, fr_exc, ow_lst, fr_lst, ow_str, fr_str, fr_tup, h1.ow, h2.ow, h3.ow, h1.fr, h2.fr, h3.fr]
theorem o3 {n : Nat} {v1 v2 v3 : D} {s1 s2 s3 : Str} (h1 : Fz v1) (h2 : Fz v2) (h3 : Fz v3) (e1 : reprD v1 = some s1) (e2 : reprD v2 = some s2) (e3 : reprD v3 = some s3) : callF tx.T tx.gv tx.tb (n + 2) 3 [.exc 4 [v1]] = .ok (.lst true [.tup [.str "poly", v1]]) [none] := by
  have e := m3 (n := n) h1 h2 h3 e1 e2 e3
  rw [callF_succ (d := d3) rfl]
  unfold bodyF d3 c3
  simp [runs, PI.run, ev, eva, evs, bd, ofO, rdS, ard, ardD, truM, truth, outsOf, finF, startE, ioOk, asgT, cx_T, cx_F, arc, callR, putB, okIo, noIx, lentB, isLst, setSlot, appD, q_addL, ln1, q_isiX, at_4_what, q_repr, e1, e2, e3, e, ow_exc, fr_exc, ow_lst, fr_lst, ow_str, fr_str, fr_tup, h1.ow, h2.ow, h3.ow, h1.fr, h2.fr, h3.fr]
theorem told3 {n : Nat} {v1 v2 v3 : D} {s1 s2 s3 : Str} (h1 : Fz v1) (h2 : Fz v2) (h3 : Fz v3) (e1 : reprD v1 = some s1) (e2 : reprD v2 = some s2) (e3 : reprD v3 = some s3) : callF tx.T tx.gv tx.tb (n + 3) 9 [.int 3, v1, v2, v3] = .ok (.lst false [.tup [.str "poly", v1]]) [none, none, none, none] := by
  have e := o3 (n := n) h1 h2 h3 e1 e2 e3
  have f0 := r3_6 (n := n + 1) h1 h2 h3
  rw [callF_succ (d := d9) rfl]
  unfold bodyF d9 c9
  simp [runs, PI.run, ev, eva, evs, bd, ofO, rdS, ard, ardD, truM, truth, outsOf, finF, startE, ioOk, asgT, cx_T, cx_F, arc, callR, putB, okIo, noIx, lentB, q_isiV, sub_0, noXe, noXf, D.noX, D.noXs, f0, e, ow_non, fr_non, ow_int, fr_int, ow_exc, fr_exc, ow_lst, fr_lst, ow_str, fr_str, fr_tup, h1.ow, h2.ow, h3.ow, h1.fr, h2.fr, h3.fr, h1.nx, h2.nx, h3.nx]
theorem due3 {n : Nat} {v1 v2 v3 : D} {s1 s2 s3 : Str} (h1 : Fz v1) (h2 : Fz v2) (h3 : Fz v3) (e1 : reprD v1 = some s1) (e2 : reprD v2 = some s2) (e3 : reprD v3 = some s3) : callF tx.T tx.gv tx.tb (n + 1) 10 [.int 3, v1, v2, v3] = .ok (.tup [.str "poly", v1]) [none, none, none, none] := by
  have i0 : pr tx.T .isin [.int 3, .tup [.int 0, .int 1, .int 8]] = some (.bl false) := by rfl
  have i1 : pr tx.T .isin [.int 3, .tup [.int 2, .int 3, .int 4, .int 5, .int 11, .int 12]] = some (.bl true) := by rfl
  have i2 : pr tx.T .isin [.int 3, .tup [.int 6, .int 9, .int 10]] = some (.bl false) := by rfl
  have i3 : pr tx.T .isin [.int 3, .tup [.int 7, .int 14]] = some (.bl false) := by rfl
  have wd : pr tx.T .idx [.lst false [.str "number", .str "row", .str "table", .str "poly", .str "base", .str "book", .str "badname", .str "text", .str "place", .str "noname", .str "taken", .str "unlike", .str "notthere", .str "many", .str "kept", .str "undo", .str "redo"], .int 3] = some (.str "poly") := by rfl
  have ad : pr tx.T .add [.lst false [.str "number", .str "row", .str "table", .str "poly", .str "base", .str "book", .str "badname", .str "text", .str "place"], .lst false [.str "noname", .str "taken", .str "unlike", .str "notthere", .str "many", .str "kept", .str "undo", .str "redo"]] = some (.lst true [.str "number", .str "row", .str "table", .str "poly", .str "base", .str "book", .str "badname", .str "text", .str "place", .str "noname", .str "taken", .str "unlike", .str "notthere", .str "many", .str "kept", .str "undo", .str "redo"]) := by rfl
  rw [callF_succ (d := d10) rfl]
  unfold bodyF d10 c10
  simp [runs, PI.run, ev, eva, evs, bd, ofO, rdS, ard, ardD, truM, truth, outsOf, finF, startE, ioOk, asgT, cx_T, cx_F, ad, wd, i0, i1, i2, i3, q_eq, q_repr, e1, e2, e3, ow_int, fr_int, ow_lst, fr_lst, ow_str, fr_str, ow_tup, fr_tup, h1.ow, h2.ow, h3.ow, h1.fr, h2.fr, h3.fr]
theorem m4 {n : Nat} {v1 v2 v3 : D} {s1 s2 s3 : Str} (h1 : Fz v1) (h2 : Fz v2) (h3 : Fz v3) (e1 : reprD v1 = some s1) (e2 : reprD v2 = some s2) (e3 : reprD v3 = some s3) : callF tx.T tx.gv tx.tb (n + 1) 4 [.exc 5 [v1]] = .ok (.lst true []) [none] := by
  rw [callF_succ (d := d4) rfl]
  unfold bodyF d4 c4
  simp [runs, PI.run, ev, eva, evs, bd, ofO, rdS, ard, ardD, truM, truth, outsOf, finF, startE, ioOk, asgT, cx_T, cx_F, isLst, setSlot, appD, q_isiX, at_5_what, q_repr, e1, e2, e3, ow_exc, fr_exc, ow_lst, fr_lst, ow_str, fr_str, fr_tup, h1.ow, h2.ow, h3.ow, h1.fr, h2.fr, h3.fr]
theorem o4 {n : Nat} {v1 v2 v3 : D} {s1 s2 s3 : Str} (h1 : Fz v1) (h2 : Fz v2) (h3 : Fz v3) (e1 : reprD v1 = some s1) (e2 : reprD v2 = some s2) (e3 : reprD v3 = some s3) : callF tx.T tx.gv tx.tb (n + 2) 3 [.exc 5 [v1]] = .ok (.lst true [.tup [.str "base", v1]]) [none] := by
  have e := m4 (n := n) h1 h2 h3 e1 e2 e3
  rw [callF_succ (d := d3) rfl]
  unfold bodyF d3 c3
  simp [runs, PI.run, ev, eva, evs, bd, ofO, rdS, ard, ardD, truM, truth, outsOf, finF, startE, ioOk, asgT, cx_T, cx_F, arc, callR, putB, okIo, noIx, lentB, isLst, setSlot, appD, q_addL, ln1, q_isiX, at_5_what, q_repr, e1, e2, e3, e, ow_exc, fr_exc, ow_lst, fr_lst, ow_str, fr_str, fr_tup, h1.ow, h2.ow, h3.ow, h1.fr, h2.fr, h3.fr]
theorem told4 {n : Nat} {v1 v2 v3 : D} {s1 s2 s3 : Str} (h1 : Fz v1) (h2 : Fz v2) (h3 : Fz v3) (e1 : reprD v1 = some s1) (e2 : reprD v2 = some s2) (e3 : reprD v3 = some s3) : callF tx.T tx.gv tx.tb (n + 3) 9 [.int 4, v1, v2, v3] = .ok (.lst false [.tup [.str "base", v1]]) [none, none, none, none] := by
  have e := o4 (n := n) h1 h2 h3 e1 e2 e3
  have f0 := r4_6 (n := n + 1) h1 h2 h3
  rw [callF_succ (d := d9) rfl]
  unfold bodyF d9 c9
  simp [runs, PI.run, ev, eva, evs, bd, ofO, rdS, ard, ardD, truM, truth, outsOf, finF, startE, ioOk, asgT, cx_T, cx_F, arc, callR, putB, okIo, noIx, lentB, q_isiV, sub_0, noXe, noXf, D.noX, D.noXs, f0, e, ow_non, fr_non, ow_int, fr_int, ow_exc, fr_exc, ow_lst, fr_lst, ow_str, fr_str, fr_tup, h1.ow, h2.ow, h3.ow, h1.fr, h2.fr, h3.fr, h1.nx, h2.nx, h3.nx]
theorem due4 {n : Nat} {v1 v2 v3 : D} {s1 s2 s3 : Str} (h1 : Fz v1) (h2 : Fz v2) (h3 : Fz v3) (e1 : reprD v1 = some s1) (e2 : reprD v2 = some s2) (e3 : reprD v3 = some s3) : callF tx.T tx.gv tx.tb (n + 1) 10 [.int 4, v1, v2, v3] = .ok (.tup [.str "base", v1]) [none, none, none, none] := by
  have i0 : pr tx.T .isin [.int 4, .tup [.int 0, .int 1, .int 8]] = some (.bl false) := by rfl
  have i1 : pr tx.T .isin [.int 4, .tup [.int 2, .int 3, .int 4, .int 5, .int 11, .int 12]] = some (.bl true) := by rfl
  have i2 : pr tx.T .isin [.int 4, .tup [.int 6, .int 9, .int 10]] = some (.bl false) := by rfl
  have i3 : pr tx.T .isin [.int 4, .tup [.int 7, .int 14]] = some (.bl false) := by rfl
  have wd : pr tx.T .idx [.lst false [.str "number", .str "row", .str "table", .str "poly", .str "base", .str "book", .str "badname", .str "text", .str "place", .str "noname", .str "taken", .str "unlike", .str "notthere", .str "many", .str "kept", .str "undo", .str "redo"], .int 4] = some (.str "base") := by rfl
  have ad : pr tx.T .add [.lst false [.str "number", .str "row", .str "table", .str "poly", .str "base", .str "book", .str "badname", .str "text", .str "place"], .lst false [.str "noname", .str "taken", .str "unlike", .str "notthere", .str "many", .str "kept", .str "undo", .str "redo"]] = some (.lst true [.str "number", .str "row", .str "table", .str "poly", .str "base", .str "book", .str "badname", .str "text", .str "place", .str "noname", .str "taken", .str "unlike", .str "notthere", .str "many", .str "kept", .str "undo", .str "redo"]) := by rfl
  rw [callF_succ (d := d10) rfl]
  unfold bodyF d10 c10
  simp [runs, PI.run, ev, eva, evs, bd, ofO, rdS, ard, ardD, truM, truth, outsOf, finF, startE, ioOk, asgT, cx_T, cx_F, ad, wd, i0, i1, i2, i3, q_eq, q_repr, e1, e2, e3, ow_int, fr_int, ow_lst, fr_lst, ow_str, fr_str, ow_tup, fr_tup, h1.ow, h2.ow, h3.ow, h1.fr, h2.fr, h3.fr]
theorem m5 {n : Nat} {v1 v2 v3 : D} {s1 s2 s3 : Str} (h1 : Fz v1) (h2 : Fz v2) (h3 : Fz v3) (e1 : reprD v1 = some s1) (e2 : reprD v2 = some s2) (e3 : reprD v3 = some s3) : callF tx.T tx.gv tx.tb (n + 1) 4 [.exc 6 [v1]] = .ok (.lst true []) [none] := by
  rw [callF_succ (d := d4) rfl]
  unfold bodyF d4 c4
  simp [runs, PI.run, ev, eva, evs, bd, ofO, rdS, ard, ardD, truM, truth, outsOf, finF, startE, ioOk, asgT, cx_T, cx_F, isLst, setSlot, appD, q_isiX, at_6_what, q_repr, e1, e2, e3, ow_exc, fr_exc, ow_lst, fr_lst, ow_str, fr_str, fr_tup, h1.ow, h2.ow, h3.ow, h1.fr, h2.fr, h3.fr]
theorem o5 {n : Nat} {v1 v2 v3 : D} {s1 s2 s3 : Str} (h1 : Fz v1) (h2 : Fz v2) (h3 : Fz v3) (e1 : reprD v1 = some s1) (e2 : reprD v2 = some s2) (e3 : reprD v3 = some s3) : callF tx.T tx.gv tx.tb (n + 2) 3 [.exc 6 [v1]] = .ok (.lst true [.tup [.str "book", v1]]) [none] := by
  have e := m5 (n := n) h1 h2 h3 e1 e2 e3
  rw [callF_succ (d := d3) rfl]
  unfold bodyF d3 c3
  simp [runs, PI.run, ev, eva, evs, bd, ofO, rdS, ard, ardD, truM, truth, outsOf, finF, startE, ioOk, asgT, cx_T, cx_F, arc, callR, putB, okIo, noIx, lentB, isLst, setSlot, appD, q_addL, ln1, q_isiX, at_6_what, q_repr, e1, e2, e3, e, ow_exc, fr_exc, ow_lst, fr_lst, ow_str, fr_str, fr_tup, h1.ow, h2.ow, h3.ow, h1.fr, h2.fr, h3.fr]
theorem told5 {n : Nat} {v1 v2 v3 : D} {s1 s2 s3 : Str} (h1 : Fz v1) (h2 : Fz v2) (h3 : Fz v3) (e1 : reprD v1 = some s1) (e2 : reprD v2 = some s2) (e3 : reprD v3 = some s3) : callF tx.T tx.gv tx.tb (n + 3) 9 [.int 5, v1, v2, v3] = .ok (.lst false [.tup [.str "book", v1]]) [none, none, none, none] := by
  have e := o5 (n := n) h1 h2 h3 e1 e2 e3
  have f0 := r5_6 (n := n + 1) h1 h2 h3
  rw [callF_succ (d := d9) rfl]
  unfold bodyF d9 c9
  simp [runs, PI.run, ev, eva, evs, bd, ofO, rdS, ard, ardD, truM, truth, outsOf, finF, startE, ioOk, asgT, cx_T, cx_F, arc, callR, putB, okIo, noIx, lentB, q_isiV, sub_0, noXe, noXf, D.noX, D.noXs, f0, e, ow_non, fr_non, ow_int, fr_int, ow_exc, fr_exc, ow_lst, fr_lst, ow_str, fr_str, fr_tup, h1.ow, h2.ow, h3.ow, h1.fr, h2.fr, h3.fr, h1.nx, h2.nx, h3.nx]
theorem due5 {n : Nat} {v1 v2 v3 : D} {s1 s2 s3 : Str} (h1 : Fz v1) (h2 : Fz v2) (h3 : Fz v3) (e1 : reprD v1 = some s1) (e2 : reprD v2 = some s2) (e3 : reprD v3 = some s3) : callF tx.T tx.gv tx.tb (n + 1) 10 [.int 5, v1, v2, v3] = .ok (.tup [.str "book", v1]) [none, none, none, none] := by
  have i0 : pr tx.T .isin [.int 5, .tup [.int 0, .int 1, .int 8]] = some (.bl false) := by rfl
  have i1 : pr tx.T .isin [.int 5, .tup [.int 2, .int 3, .int 4, .int 5, .int 11, .int 12]] = some (.bl true) := by rfl
  have i2 : pr tx.T .isin [.int 5, .tup [.int 6, .int 9, .int 10]] = some (.bl false) := by rfl
  have i3 : pr tx.T .isin [.int 5, .tup [.int 7, .int 14]] = some (.bl false) := by rfl
  have wd : pr tx.T .idx [.lst false [.str "number", .str "row", .str "table", .str "poly", .str "base", .str "book", .str "badname", .str "text", .str "place", .str "noname", .str "taken", .str "unlike", .str "notthere", .str "many", .str "kept", .str "undo", .str "redo"], .int 5] = some (.str "book") := by rfl
  have ad : pr tx.T .add [.lst false [.str "number", .str "row", .str "table", .str "poly", .str "base", .str "book", .str "badname", .str "text", .str "place"], .lst false [.str "noname", .str "taken", .str "unlike", .str "notthere", .str "many", .str "kept", .str "undo", .str "redo"]] = some (.lst true [.str "number", .str "row", .str "table", .str "poly", .str "base", .str "book", .str "badname", .str "text", .str "place", .str "noname", .str "taken", .str "unlike", .str "notthere", .str "many", .str "kept", .str "undo", .str "redo"]) := by rfl
  rw [callF_succ (d := d10) rfl]
  unfold bodyF d10 c10
  simp [runs, PI.run, ev, eva, evs, bd, ofO, rdS, ard, ardD, truM, truth, outsOf, finF, startE, ioOk, asgT, cx_T, cx_F, ad, wd, i0, i1, i2, i3, q_eq, q_repr, e1, e2, e3, ow_int, fr_int, ow_lst, fr_lst, ow_str, fr_str, ow_tup, fr_tup, h1.ow, h2.ow, h3.ow, h1.fr, h2.fr, h3.fr]
theorem m6 {n : Nat} {v1 v2 v3 : D} {s1 s2 s3 : Str} (h1 : Fz v1) (h2 : Fz v2) (h3 : Fz v3) (e1 : reprD v1 = some s1) (e2 : reprD v2 = some s2) (e3 : reprD v3 = some s3) : callF tx.T tx.gv tx.tb (n + 1) 4 [.exc 7 [v1]] = .ok (.lst true []) [none] := by
  rw [callF_succ (d := d4) rfl]
  unfold bodyF d4 c4
  simp [runs, PI.run, ev, eva, evs, bd, ofO, rdS, ard, ardD, truM, truth, outsOf, finF, startE, ioOk, asgT, cx_T, cx_F, isLst, setSlot, appD, q_isiX, at_7_name, q_repr, e1, e2, e3, ow_exc, fr_exc, ow_lst, fr_lst, ow_str, fr_str, fr_tup, h1.ow, h2.ow, h3.ow, h1.fr, h2.fr, h3.fr]
theorem o6 {n : Nat} {v1 v2 v3 : D} {s1 s2 s3 : Str} (h1 : Fz v1) (h2 : Fz v2) (h3 : Fz v3) (e1 : reprD v1 = some s1) (e2 : reprD v2 = some s2) (e3 : reprD v3 = some s3) : callF tx.T tx.gv tx.tb (n + 2) 3 [.exc 7 [v1]] = .ok (.lst true [.tup [.str "badname", .str s1]]) [none] := by
  have e := m6 (n := n) h1 h2 h3 e1 e2 e3
  rw [callF_succ (d := d3) rfl]
  unfold bodyF d3 c3
  simp [runs, PI.run, ev, eva, evs, bd, ofO, rdS, ard, ardD, truM, truth, outsOf, finF, startE, ioOk, asgT, cx_T, cx_F, arc, callR, putB, okIo, noIx, lentB, isLst, setSlot, appD, q_addL, ln1, q_isiX, at_7_name, q_repr, e1, e2, e3, e, ow_exc, fr_exc, ow_lst, fr_lst, ow_str, fr_str, fr_tup, h1.ow, h2.ow, h3.ow, h1.fr, h2.fr, h3.fr]
theorem told6 {n : Nat} {v1 v2 v3 : D} {s1 s2 s3 : Str} (h1 : Fz v1) (h2 : Fz v2) (h3 : Fz v3) (e1 : reprD v1 = some s1) (e2 : reprD v2 = some s2) (e3 : reprD v3 = some s3) : callF tx.T tx.gv tx.tb (n + 3) 9 [.int 6, v1, v2, v3] = .ok (.lst false [.tup [.str "badname", .str s1]]) [none, none, none, none] := by
  have e := o6 (n := n) h1 h2 h3 e1 e2 e3
  have f0 := r6_6 (n := n + 1) h1 h2 h3
  rw [callF_succ (d := d9) rfl]
  unfold bodyF d9 c9
  simp [runs, PI.run, ev, eva, evs, bd, ofO, rdS, ard, ardD, truM, truth, outsOf, finF, startE, ioOk, asgT, cx_T, cx_F, arc, callR, putB, okIo, noIx, lentB, q_isiV, sub_0, noXe, noXf, D.noX, D.noXs, f0, e, ow_non, fr_non, ow_int, fr_int, ow_exc, fr_exc, ow_lst, fr_lst, ow_str, fr_str, fr_tup, h1.ow, h2.ow, h3.ow, h1.fr, h2.fr, h3.fr, h1.nx, h2.nx, h3.nx]
theorem due6 {n : Nat} {v1 v2 v3 : D} {s1 s2 s3 : Str} (h1 : Fz v1) (h2 : Fz v2) (h3 : Fz v3) (e1 : reprD v1 = some s1) (e2 : reprD v2 = some s2) (e3 : reprD v3 = some s3) : callF tx.T tx.gv tx.tb (n + 1) 10 [.int 6, v1, v2, v3] = .ok (.tup [.str "badname", .str s1]) [none, none, none, none] := by
  have i0 : pr tx.T .isin [.int 6, .tup [.int 0, .int 1, .int 8]] = some (.bl false) := by rfl
  have i1 : pr tx.T .isin [.int 6, .tup [.int 2, .int 3, .int 4, .int 5, .int 11, .int 12]] = some (.bl false) := by rfl
  have i2 : pr tx.T .isin [.int 6, .tup [.int 6, .int 9, .int 10]] = some (.bl true) := by rfl
  have i3 : pr tx.T .isin [.int 6, .tup [.int 7, .int 14]] = some (.bl false) := by rfl
  have wd : pr tx.T .idx [.lst false [.str "number", .str "row", .str "table", .str "poly", .str "base", .str "book", .str "badname", .str "text", .str "place", .str "noname", .str "taken", .str "unlike", .str "notthere", .str "many", .str "kept", .str "undo", .str "redo"], .int 6] = some (.str "badname") := by rfl
  have ad : pr tx.T .add [.lst false [.str "number", .str "row", .str "table", .str "poly", .str "base", .str "book", .str "badname", .str "text", .str "place"], .lst false [.str "noname", .str "taken", .str "unlike", .str "notthere", .str "many", .str "kept", .str "undo", .str "redo"]] = some (.lst true [.str "number", .str "row", .str "table", .str "poly", .str "base", .str "book", .str "badname", .str "text", .str "place", .str "noname", .str "taken", .str "unlike", .str "notthere", .str "many", .str "kept", .str "undo", .str "redo"]) := by rfl
  rw [callF_succ (d := d10) rfl]
  unfold bodyF d10 c10
  simp [runs, PI.run, ev, eva, evs, bd, ofO, rdS, ard, ardD, truM, truth, outsOf, finF, startE, ioOk, asgT, cx_T, cx_F, ad, wd, i0, i1, i2, i3, q_eq, q_repr, e1, e2, e3, ow_int, fr_int, ow_lst, fr_lst, ow_str, fr_str, ow_tup, fr_tup, h1.ow, h2.ow, h3.ow, h1.fr, h2.fr, h3.fr]
theorem m7 {n : Nat} {v1 v2 v3 : D} {s1 s2 s3 : Str} (h1 : Fz v1) (h2 : Fz v2) (h3 : Fz v3) (e1 : reprD v1 = some s1) (e2 : reprD v2 = some s2) (e3 : reprD v3 = some s3) : callF tx.T tx.gv tx.tb (n + 1) 4 [.exc 8 [v1, v2]] = .ok (.lst true []) [none] := by
  rw [callF_succ (d := d4) rfl]
  unfold bodyF d4 c4
  simp [runs, PI.run, ev, eva, evs, bd, ofO, rdS, ard, ardD, truM, truth, outsOf, finF, startE, ioOk, asgT, cx_T, cx_F, isLst, setSlot, appD, q_isiX, at_8_line, at_8_word, q_repr, e1, e2, e3, ow_exc, fr_exc, ow_lst, fr_lst, ow_str, fr_str, fr_tup, h1.ow, h2.ow, h3.ow, h1.fr, h2.fr, h3.fr]
theorem o7 {n : Nat} {v1 v2 v3 : D} {s1 s2 s3 : Str} (h1 : Fz v1) (h2 : Fz v2) (h3 : Fz v3) (e1 : reprD v1 = some s1) (e2 : reprD v2 = some s2) (e3 : reprD v3 = some s3) : callF tx.T tx.gv tx.tb (n + 2) 3 [.exc 8 [v1, v2]] = .ok (.lst true [.tup [.str "text", v1, v2]]) [none] := by
  have e := m7 (n := n) h1 h2 h3 e1 e2 e3
  rw [callF_succ (d := d3) rfl]
  unfold bodyF d3 c3
  simp [runs, PI.run, ev, eva, evs, bd, ofO, rdS, ard, ardD, truM, truth, outsOf, finF, startE, ioOk, asgT, cx_T, cx_F, arc, callR, putB, okIo, noIx, lentB, isLst, setSlot, appD, q_addL, ln1, q_isiX, at_8_line, at_8_word, q_repr, e1, e2, e3, e, ow_exc, fr_exc, ow_lst, fr_lst, ow_str, fr_str, fr_tup, h1.ow, h2.ow, h3.ow, h1.fr, h2.fr, h3.fr]
theorem told7 {n : Nat} {v1 v2 v3 : D} {s1 s2 s3 : Str} (h1 : Fz v1) (h2 : Fz v2) (h3 : Fz v3) (e1 : reprD v1 = some s1) (e2 : reprD v2 = some s2) (e3 : reprD v3 = some s3) : callF tx.T tx.gv tx.tb (n + 3) 9 [.int 7, v1, v2, v3] = .ok (.lst false [.tup [.str "text", v1, v2]]) [none, none, none, none] := by
  have e := o7 (n := n) h1 h2 h3 e1 e2 e3
  have f0 := r7_6 (n := n + 1) h1 h2 h3
  have f1 := r7_7 (n := n + 1) h1 h2 h3
  rw [callF_succ (d := d9) rfl]
  unfold bodyF d9 c9
  simp [runs, PI.run, ev, eva, evs, bd, ofO, rdS, ard, ardD, truM, truth, outsOf, finF, startE, ioOk, asgT, cx_T, cx_F, arc, callR, putB, okIo, noIx, lentB, q_isiV, sub_0, noXe, noXf, D.noX, D.noXs, f0, f1, e, ow_non, fr_non, ow_int, fr_int, ow_exc, fr_exc, ow_lst, fr_lst, ow_str, fr_str, fr_tup, h1.ow, h2.ow, h3.ow, h1.fr, h2.fr, h3.fr, h1.nx, h2.nx, h3.nx]
theorem due7 {n : Nat} {v1 v2 v3 : D} {s1 s2 s3 : Str} (h1 : Fz v1) (h2 : Fz v2) (h3 : Fz v3) (e1 : reprD v1 = some s1) (e2 : reprD v2 = some s2) (e3 : reprD v3 = some s3) : callF tx.T tx.gv tx.tb (n + 1) 10 [.int 7, v1, v2, v3] = .ok (.tup [.str "text", v1, v2]) [none, none, none, none] := by
  have i0 : pr tx.T .isin [.int 7, .tup [.int 0, .int 1, .int 8]] = some (.bl false) := by rfl
  have i1 : pr tx.T .isin [.int 7, .tup [.int 2, .int 3, .int 4, .int 5, .int 11, .int 12]] = some (.bl false) := by rfl
  have i2 : pr tx.T .isin [.int 7, .tup [.int 6, .int 9, .int 10]] = some (.bl false) := by rfl
  have i3 : pr tx.T .isin [.int 7, .tup [.int 7, .int 14]] = some (.bl true) := by rfl
  have wd : pr tx.T .idx [.lst false [.str "number", .str "row", .str "table", .str "poly", .str "base", .str "book", .str "badname", .str "text", .str "place", .str "noname", .str "taken", .str "unlike", .str "notthere", .str "many", .str "kept", .str "undo", .str "redo"], .int 7] = some (.str "text") := by rfl
  have ad : pr tx.T .add [.lst false [.str "number", .str "row", .str "table", .str "poly", .str "base", .str "book", .str "badname", .str "text", .str "place"], .lst false [.str "noname", .str "taken", .str "unlike", .str "notthere", .str "many", .str "kept", .str "undo", .str "redo"]] = some (.lst true [.str "number", .str "row", .str "table", .str "poly", .str "base", .str "book", .str "badname", .str "text", .str "place", .str "noname", .str "taken", .str "unlike", .str "notthere", .str "many", .str "kept", .str "undo", .str "redo"]) := by rfl
  rw [callF_succ (d := d10) rfl]
  unfold bodyF d10 c10
  simp [runs, PI.run, ev, eva, evs, bd, ofO, rdS, ard, ardD, truM, truth, outsOf, finF, startE, ioOk, asgT, cx_T, cx_F, ad, wd, i0, i1, i2, i3, q_eq, q_repr, e1, e2, e3, ow_int, fr_int, ow_lst, fr_lst, ow_str, fr_str, ow_tup, fr_tup, h1.ow, h2.ow, h3.ow, h1.fr, h2.fr, h3.fr]
theorem m8 {n : Nat} {v1 v2 v3 : D} {s1 s2 s3 : Str} (h1 : Fz v1) (h2 : Fz v2) (h3 : Fz v3) (e1 : reprD v1 = some s1) (e2 : reprD v2 = some s2) (e3 : reprD v3 = some s3) : callF tx.T tx.gv tx.tb (n + 1) 4 [.exc 9 [v1, v2]] = .ok (.lst true []) [none] := by
  rw [callF_succ (d := d4) rfl]
  unfold bodyF d4 c4
  simp [runs, PI.run, ev, eva, evs, bd, ofO, rdS, ard, ardD, truM, truth, outsOf, finF, startE, ioOk, asgT, cx_T, cx_F, isLst, setSlot, appD, q_isiX, at_9_what, at_9_index, q_repr, e1, e2, e3, ow_exc, fr_exc, ow_lst, fr_lst, ow_str, fr_str, fr_tup, h1.ow, h2.ow, h3.ow, h1.fr, h2.fr, h3.fr]
theorem o8 {n : Nat} {v1 v2 v3 : D} {s1 s2 s3 : Str} (h1 : Fz v1) (h2 : Fz v2) (h3 : Fz v3) (e1 : reprD v1 = some s1) (e2 : reprD v2 = some s2) (e3 : reprD v3 = some s3) : callF tx.T tx.gv tx.tb (n + 2) 3 [.exc 9 [v1, v2]] = .ok (.lst true [.tup [.str "place", v1, .str s2]]) [none] := by
  have e := m8 (n := n) h1 h2 h3 e1 e2 e3
  rw [callF_succ (d := d3) rfl]
  unfold bodyF d3 c3
  simp [runs, PI.run, ev, eva, evs, bd, ofO, rdS, ard, ardD, truM, truth, outsOf, finF, startE, ioOk, asgT, cx_T, cx_F, arc, callR, putB, okIo, noIx, lentB, isLst, setSlot, appD, q_addL, ln1, q_isiX, at_9_what, at_9_index, q_repr, e1, e2, e3, e, ow_exc, fr_exc, ow_lst, fr_lst, ow_str, fr_str, fr_tup, h1.ow, h2.ow, h3.ow, h1.fr, h2.fr, h3.fr]
theorem told8 {n : Nat} {v1 v2 v3 : D} {s1 s2 s3 : Str} (h1 : Fz v1) (h2 : Fz v2) (h3 : Fz v3) (e1 : reprD v1 = some s1) (e2 : reprD v2 = some s2) (e3 : reprD v3 = some s3) : callF tx.T tx.gv tx.tb (n + 3) 9 [.int 8, v1, v2, v3] = .ok (.lst false [.tup [.str "place", v1, .str s2]]) [none, none, none, none] := by
  have e := o8 (n := n) h1 h2 h3 e1 e2 e3
  have f0 := r8_6 (n := n + 1) h1 h2 h3
  have f1 := r8_7 (n := n + 1) h1 h2 h3
  rw [callF_succ (d := d9) rfl]
  unfold bodyF d9 c9
  simp [runs, PI.run, ev, eva, evs, bd, ofO, rdS, ard, ardD, truM, truth, outsOf, finF, startE, ioOk, asgT, cx_T, cx_F, arc, callR, putB, okIo, noIx, lentB, q_isiV, sub_0, noXe, noXf, D.noX, D.noXs, f0, f1, e, ow_non, fr_non, ow_int, fr_int, ow_exc, fr_exc, ow_lst, fr_lst, ow_str, fr_str, fr_tup, h1.ow, h2.ow, h3.ow, h1.fr, h2.fr, h3.fr, h1.nx, h2.nx, h3.nx]
theorem due8 {n : Nat} {v1 v2 v3 : D} {s1 s2 s3 : Str} (h1 : Fz v1) (h2 : Fz v2) (h3 : Fz v3) (e1 : reprD v1 = some s1) (e2 : reprD v2 = some s2) (e3 : reprD v3 = some s3) : callF tx.T tx.gv tx.tb (n + 1) 10 [.int 8, v1, v2, v3] = .ok (.tup [.str "place", v1, .str s2]) [none, none, none, none] := by
  have i0 : pr tx.T .isin [.int 8, .tup [.int 0, .int 1, .int 8]] = some (.bl true) := by rfl
  have i1 : pr tx.T .isin [.int 8, .tup [.int 2, .int 3, .int 4, .int 5, .int 11, .int 12]] = some (.bl false) := by rfl
  have i2 : pr tx.T .isin [.int 8, .tup [.int 6, .int 9, .int 10]] = some (.bl false) := by rfl
  have i3 : pr tx.T .isin [.int 8, .tup [.int 7, .int 14]] = some (.bl false) := by rfl
  have wd : pr tx.T .idx [.lst false [.str "number", .str "row", .str "table", .str "poly", .str "base", .str "book", .str "badname", .str "text", .str "place", .str "noname", .str "taken", .str "unlike", .str "notthere", .str "many", .str "kept", .str "undo", .str "redo"], .int 8] = some (.str "place") := by rfl
  have ad : pr tx.T .add [.lst false [.str "number", .str "row", .str "table", .str "poly", .str "base", .str "book", .str "badname", .str "text", .str "place"], .lst false [.str "noname", .str "taken", .str "unlike", .str "notthere", .str "many", .str "kept", .str "undo", .str "redo"]] = some (.lst true [.str "number", .str "row", .str "table", .str "poly", .str "base", .str "book", .str "badname", .str "text", .str "place", .str "noname", .str "taken", .str "unlike", .str "notthere", .str "many", .str "kept", .str "undo", .str "redo"]) := by rfl
  rw [callF_succ (d := d10) rfl]
  unfold bodyF d10 c10
  simp [runs, PI.run, ev, eva, evs, bd, ofO, rdS, ard, ardD, truM, truth, outsOf, finF, startE, ioOk, asgT, cx_T, cx_F, ad, wd, i0, i1, i2, i3, q_eq, q_repr, e1, e2, e3, ow_int, fr_int, ow_lst, fr_lst, ow_str, fr_str, ow_tup, fr_tup, h1.ow, h2.ow, h3.ow, h1.fr, h2.fr, h3.fr]
theorem m9 {n : Nat} {v1 v2 v3 : D} {s1 s2 s3 : Str} (h1 : Fz v1) (h2 : Fz v2) (h3 : Fz v3) (e1 : reprD v1 = some s1) (e2 : reprD v2 = some s2) (e3 : reprD v3 = some s3) : callF tx.T tx.gv tx.tb (n + 1) 4 [.exc 10 [v1]] = .ok (.lst true [.tup [.str "noname", .str s1]]) [none] := by
  rw [callF_succ (d := d4) rfl]
  unfold bodyF d4 c4
  simp [runs, PI.run, ev, eva, evs, bd, ofO, rdS, ard, ardD, truM, truth, outsOf, finF, startE, ioOk, asgT, cx_T, cx_F, isLst, setSlot, appD, q_isiX, at_10_name, q_repr, e1, e2, e3, ow_exc, fr_exc, ow_lst, fr_lst, ow_str, fr_str, fr_tup, h1.ow, h2.ow, h3.ow, h1.fr, h2.fr, h3.fr]
theorem o9 {n : Nat} {v1 v2 v3 : D} {s1 s2 s3 : Str} (h1 : Fz v1) (h2 : Fz v2) (h3 : Fz v3) (e1 : reprD v1 = some s1) (e2 : reprD v2 = some s2) (e3 : reprD v3 = some s3) : callF tx.T tx.gv tx.tb (n + 2) 3 [.exc 10 [v1]] = .ok (.lst true [.tup [.str "noname", .str s1]]) [none] := by
  have e := m9 (n := n) h1 h2 h3 e1 e2 e3
  rw [callF_succ (d := d3) rfl]
  unfold bodyF d3 c3
  simp [runs, PI.run, ev, eva, evs, bd, ofO, rdS, ard, ardD, truM, truth, outsOf, finF, startE, ioOk, asgT, cx_T, cx_F, arc, callR, putB, okIo, noIx, lentB, isLst, setSlot, appD, q_addL, ln1, q_isiX, at_10_name, q_repr, e1, e2, e3, e, ow_exc, fr_exc, ow_lst, fr_lst, ow_str, fr_str, fr_tup, h1.ow, h2.ow, h3.ow, h1.fr, h2.fr, h3.fr]
theorem told9 {n : Nat} {v1 v2 v3 : D} {s1 s2 s3 : Str} (h1 : Fz v1) (h2 : Fz v2) (h3 : Fz v3) (e1 : reprD v1 = some s1) (e2 : reprD v2 = some s2) (e3 : reprD v3 = some s3) : callF tx.T tx.gv tx.tb (n + 3) 9 [.int 9, v1, v2, v3] = .ok (.lst false [.tup [.str "noname", .str s1]]) [none, none, none, none] := by
  have e := o9 (n := n) h1 h2 h3 e1 e2 e3
  have f0 := r9_6 (n := n + 1) h1 h2 h3
  have f1 := r9_7 (n := n + 1) h1 h2 h3
  rw [callF_succ (d := d9) rfl]
  unfold bodyF d9 c9
  simp [runs, PI.run, ev, eva, evs, bd, ofO, rdS, ard, ardD, truM, truth, outsOf, finF, startE, ioOk, asgT, cx_T, cx_F, arc, callR, putB, okIo, noIx, lentB, q_isiV, sub_0, noXe, noXf, D.noX, D.noXs, f0, f1, e, ow_non, fr_non, ow_int, fr_int, ow_exc, fr_exc, ow_lst, fr_lst, ow_str, fr_str, fr_tup, h1.ow, h2.ow, h3.ow, h1.fr, h2.fr, h3.fr, h1.nx, h2.nx, h3.nx]
theorem due9 {n : Nat} {v1 v2 v3 : D} {s1 s2 s3 : Str} (h1 : Fz v1) (h2 : Fz v2) (h3 : Fz v3) (e1 : reprD v1 = some s1) (e2 : reprD v2 = some s2) (e3 : reprD v3 = some s3) : callF tx.T tx.gv tx.tb (n + 1) 10 [.int 9, v1, v2, v3] = .ok (.tup [.str "noname", .str s1]) [none, none, none, none] := by
  have i0 : pr tx.T .isin [.int 9, .tup [.int 0, .int 1, .int 8]] = some (.bl false) := by rfl
  have i1 : pr tx.T .isin [.int 9, .tup [.int 2, .int 3, .int 4, .int 5, .int 11, .int 12]] = some (.bl false) := by rfl
  have i2 : pr tx.T .isin [.int 9, .tup [.int 6, .int 9, .int 10]] = some (.bl true) := by rfl
  have i3 : pr tx.T .isin [.int 9, .tup [.int 7, .int 14]] = some (.bl false) := by rfl
  have wd : pr tx.T .idx [.lst false [.str "number", .str "row", .str "table", .str "poly", .str "base", .str "book", .str "badname", .str "text", .str "place", .str "noname", .str "taken", .str "unlike", .str "notthere", .str "many", .str "kept", .str "undo", .str "redo"], .int 9] = some (.str "noname") := by rfl
  have ad : pr tx.T .add [.lst false [.str "number", .str "row", .str "table", .str "poly", .str "base", .str "book", .str "badname", .str "text", .str "place"], .lst false [.str "noname", .str "taken", .str "unlike", .str "notthere", .str "many", .str "kept", .str "undo", .str "redo"]] = some (.lst true [.str "number", .str "row", .str "table", .str "poly", .str "base", .str "book", .str "badname", .str "text", .str "place", .str "noname", .str "taken", .str "unlike", .str "notthere", .str "many", .str "kept", .str "undo", .str "redo"]) := by rfl
  rw [callF_succ (d := d10) rfl]
  unfold bodyF d10 c10
  simp [runs, PI.run, ev, eva, evs, bd, ofO, rdS, ard, ardD, truM, truth, outsOf, finF, startE, ioOk, asgT, cx_T, cx_F, ad, wd, i0, i1, i2, i3, q_eq, q_repr, e1, e2, e3, ow_int, fr_int, ow_lst, fr_lst, ow_str, fr_str, ow_tup, fr_tup, h1.ow, h2.ow, h3.ow, h1.fr, h2.fr, h3.fr]
theorem m10 {n : Nat} {v1 v2 v3 : D} {s1 s2 s3 : Str} (h1 : Fz v1) (h2 : Fz v2) (h3 : Fz v3) (e1 : reprD v1 = some s1) (e2 : reprD v2 = some s2) (e3 : reprD v3 = some s3) : callF tx.T tx.gv tx.tb (n + 1) 4 [.exc 11 [v1]] = .ok (.lst true [.tup [.str "taken", .str s1]]) [none] := by
  rw [callF_succ (d := d4) rfl]
  unfold bodyF d4 c4
  simp [runs, PI.run, ev, eva, evs, bd, ofO, rdS, ard, ardD, truM, truth, outsOf, finF, startE, ioOk, asgT, cx_T, cx_F, isLst, setSlot, appD, q_isiX, at_11_name, q_repr, e1, e2, e3, ow_exc, fr_exc, ow_lst, fr_lst, ow_str, fr_str, fr_tup, h1.ow, h2.ow, h3.ow, h1.fr, h2.fr, h3.fr]
theorem o10 {n : Nat} {v1 v2 v3 : D} {s1 s2 s3 : Str} (h1 : Fz v1) (h2 : Fz v2) (h3 : Fz v3) (e1 : reprD v1 = some s1) (e2 : reprD v2 = some s2) (e3 : reprD v3 = some s3) : callF tx.T tx.gv tx.tb (n + 2) 3 [.exc 11 [v1]] = .ok (.lst true [.tup [.str "taken", .str s1]]) [none] := by
  have e := m10 (n := n) h1 h2 h3 e1 e2 e3
  rw [callF_succ (d := d3) rfl]
  unfold bodyF d3 c3
  simp [runs, PI.run, ev, eva, evs, bd, ofO, rdS, ard, ardD, truM, truth, outsOf, finF, startE, ioOk, asgT, cx_T, cx_F, arc, callR, putB, okIo, noIx, lentB, isLst, setSlot, appD, q_addL, ln1, q_isiX, at_11_name, q_repr, e1, e2, e3, e, ow_exc, fr_exc, ow_lst, fr_lst, ow_str, fr_str, fr_tup, h1.ow, h2.ow, h3.ow, h1.fr, h2.fr, h3.fr]
theorem told10 {n : Nat} {v1 v2 v3 : D} {s1 s2 s3 : Str} (h1 : Fz v1) (h2 : Fz v2) (h3 : Fz v3) (e1 : reprD v1 = some s1) (e2 : reprD v2 = some s2) (e3 : reprD v3 = some s3) : callF tx.T tx.gv tx.tb (n + 3) 9 [.int 10, v1, v2, v3] = .ok (.lst false [.tup [.str "taken", .str s1]]) [none, none, none, none] := by
  have e := o10 (n := n) h1 h2 h3 e1 e2 e3
  have f0 := r10_6 (n := n + 1) h1 h2 h3
  have f1 := r10_7 (n := n + 1) h1 h2 h3
  rw [callF_succ (d := d9) rfl]
  unfold bodyF d9 c9
  simp [runs, PI.run, ev, eva, evs, bd, ofO, rdS, ard, ardD, truM, truth, outsOf, finF, startE, ioOk, asgT, cx_T, cx_F, arc, callR, putB, okIo, noIx, lentB, q_isiV, sub_0, noXe, noXf, D.noX, D.noXs, f0, f1, e, ow_non, fr_non, ow_int, fr_int, ow_exc, fr_exc, ow_lst, fr_lst, ow_str, fr_str, fr_tup, h1.ow, h2.ow, h3.ow, h1.fr, h2.fr, h3.fr, h1.nx, h2.nx, h3.nx]
theorem due10 {n : Nat} {v1 v2 v3 : D} {s1 s2 s3 : Str} (h1 : Fz v1) (h2 : Fz v2) (h3 : Fz v3) (e1 : reprD v1 = some s1) (e2 : reprD v2 = some s2) (e3 : reprD v3 = some s3) : callF tx.T tx.gv tx.tb (n + 1) 10 [.int 10, v1, v2, v3] = .ok (.tup [.str "taken", .str s1]) [none, none, none, none] := by
  have i0 : pr tx.T .isin [.int 10, .tup [.int 0, .int 1, .int 8]] = some (.bl false) := by rfl
  have i1 : pr tx.T .isin [.int 10, .tup [.int 2, .int 3, .int 4, .int 5, .int 11, .int 12]] = some (.bl false) := by rfl
  have i2 : pr tx.T .isin [.int 10, .tup [.int 6, .int 9, .int 10]] = some (.bl true) := by rfl
  have i3 : pr tx.T .isin [.int 10, .tup [.int 7, .int 14]] = some (.bl false) := by rfl
  have wd : pr tx.T .idx [.lst false [.str "number", .str "row", .str "table", .str "poly", .str "base", .str "book", .str "badname", .str "text", .str "place", .str "noname", .str "taken", .str "unlike", .str "notthere", .str "many", .str "kept", .str "undo", .str "redo"], .int 10] = some (.str "taken") := by rfl
  have ad : pr tx.T .add [.lst false [.str "number", .str "row", .str "table", .str "poly", .str "base", .str "book", .str "badname", .str "text", .str "place"], .lst false [.str "noname", .str "taken", .str "unlike", .str "notthere", .str "many", .str "kept", .str "undo", .str "redo"]] = some (.lst true [.str "number", .str "row", .str "table", .str "poly", .str "base", .str "book", .str "badname", .str "text", .str "place", .str "noname", .str "taken", .str "unlike", .str "notthere", .str "many", .str "kept", .str "undo", .str "redo"]) := by rfl
  rw [callF_succ (d := d10) rfl]
  unfold bodyF d10 c10
  simp [runs, PI.run, ev, eva, evs, bd, ofO, rdS, ard, ardD, truM, truth, outsOf, finF, startE, ioOk, asgT, cx_T, cx_F, ad, wd, i0, i1, i2, i3, q_eq, q_repr, e1, e2, e3, ow_int, fr_int, ow_lst, fr_lst, ow_str, fr_str, ow_tup, fr_tup, h1.ow, h2.ow, h3.ow, h1.fr, h2.fr, h3.fr]
theorem m11 {n : Nat} {v1 v2 v3 : D} {s1 s2 s3 : Str} (h1 : Fz v1) (h2 : Fz v2) (h3 : Fz v3) (e1 : reprD v1 = some s1) (e2 : reprD v2 = some s2) (e3 : reprD v3 = some s3) : callF tx.T tx.gv tx.tb (n + 1) 4 [.exc 12 [v1]] = .ok (.lst true [.tup [.str "unlike", v1]]) [none] := by
  rw [callF_succ (d := d4) rfl]
  unfold bodyF d4 c4
  simp [runs, PI.run, ev, eva, evs, bd, ofO, rdS, ard, ardD, truM, truth, outsOf, finF, startE, ioOk, asgT, cx_T, cx_F, isLst, setSlot, appD, q_isiX, at_12_what, q_repr, e1, e2, e3, ow_exc, fr_exc, ow_lst, fr_lst, ow_str, fr_str, fr_tup, h1.ow, h2.ow, h3.ow, h1.fr, h2.fr, h3.fr]
theorem o11 {n : Nat} {v1 v2 v3 : D} {s1 s2 s3 : Str} (h1 : Fz v1) (h2 : Fz v2) (h3 : Fz v3) (e1 : reprD v1 = some s1) (e2 : reprD v2 = some s2) (e3 : reprD v3 = some s3) : callF tx.T tx.gv tx.tb (n + 2) 3 [.exc 12 [v1]] = .ok (.lst true [.tup [.str "unlike", v1]]) [none] := by
  have e := m11 (n := n) h1 h2 h3 e1 e2 e3
  rw [callF_succ (d := d3) rfl]
  unfold bodyF d3 c3
  simp [runs, PI.run, ev, eva, evs, bd, ofO, rdS, ard, ardD, truM, truth, outsOf, finF, startE, ioOk, asgT, cx_T, cx_F, arc, callR, putB, okIo, noIx, lentB, isLst, setSlot, appD, q_addL, ln1, q_isiX, at_12_what, q_repr, e1, e2, e3, e, ow_exc, fr_exc, ow_lst, fr_lst, ow_str, fr_str, fr_tup, h1.ow, h2.ow, h3.ow, h1.fr, h2.fr, h3.fr]
theorem told11 {n : Nat} {v1 v2 v3 : D} {s1 s2 s3 : Str} (h1 : Fz v1) (h2 : Fz v2) (h3 : Fz v3) (e1 : reprD v1 = some s1) (e2 : reprD v2 = some s2) (e3 : reprD v3 = some s3) : callF tx.T tx.gv tx.tb (n + 3) 9 [.int 11, v1, v2, v3] = .ok (.lst false [.tup [.str "unlike", v1]]) [none, none, none, none] := by
  have e := o11 (n := n) h1 h2 h3 e1 e2 e3
  have f0 := r11_6 (n := n + 1) h1 h2 h3
  have f1 := r11_7 (n := n + 1) h1 h2 h3
  rw [callF_succ (d := d9) rfl]
  unfold bodyF d9 c9
  simp [runs, PI.run, ev, eva, evs, bd, ofO, rdS, ard, ardD, truM, truth, outsOf, finF, startE, ioOk, asgT, cx_T, cx_F, arc, callR, putB, okIo, noIx, lentB, q_isiV, sub_0, noXe, noXf, D.noX, D.noXs, f0, f1, e, ow_non, fr_non, ow_int, fr_int, ow_exc, fr_exc, ow_lst, fr_lst, ow_str, fr_str, fr_tup, h1.ow, h2.ow, h3.ow, h1.fr, h2.fr, h3.fr, h1.nx, h2.nx, h3.nx]
theorem due11 {n : Nat} {v1 v2 v3 : D} {s1 s2 s3 : Str} (h1 : Fz v1) (h2 : Fz v2) (h3 : Fz v3) (e1 : reprD v1 = some s1) (e2 : reprD v2 = some s2) (e3 : reprD v3 = some s3) : callF tx.T tx.gv tx.tb (n + 1) 10 [.int 11, v1, v2, v3] = .ok (.tup [.str "unlike", v1]) [none, none, none, none] := by
  have i0 : pr tx.T .isin [.int 11, .tup [.int 0, .int 1, .int 8]] = some (.bl false) := by rfl
  have i1 : pr tx.T .isin [.int 11, .tup [.int 2, .int 3, .int 4, .int 5, .int 11, .int 12]] = some (.bl true) := by rfl
  have i2 : pr tx.T .isin [.int 11, .tup [.int 6, .int 9, .int 10]] = some (.bl false) := by rfl
  have i3 : pr tx.T .isin [.int 11, .tup [.int 7, .int 14]] = some (.bl false) := by rfl
  have wd : pr tx.T .idx [.lst false [.str "number", .str "row", .str "table", .str "poly", .str "base", .str "book", .str "badname", .str "text", .str "place", .str "noname", .str "taken", .str "unlike", .str "notthere", .str "many", .str "kept", .str "undo", .str "redo"], .int 11] = some (.str "unlike") := by rfl
  have ad : pr tx.T .add [.lst false [.str "number", .str "row", .str "table", .str "poly", .str "base", .str "book", .str "badname", .str "text", .str "place"], .lst false [.str "noname", .str "taken", .str "unlike", .str "notthere", .str "many", .str "kept", .str "undo", .str "redo"]] = some (.lst true [.str "number", .str "row", .str "table", .str "poly", .str "base", .str "book", .str "badname", .str "text", .str "place", .str "noname", .str "taken", .str "unlike", .str "notthere", .str "many", .str "kept", .str "undo", .str "redo"]) := by rfl
  rw [callF_succ (d := d10) rfl]
  unfold bodyF d10 c10
  simp [runs, PI.run, ev, eva, evs, bd, ofO, rdS, ard, ardD, truM, truth, outsOf, finF, startE, ioOk, asgT, cx_T, cx_F, ad, wd, i0, i1, i2, i3, q_eq, q_repr, e1, e2, e3, ow_int, fr_int, ow_lst, fr_lst, ow_str, fr_str, ow_tup, fr_tup, h1.ow, h2.ow, h3.ow, h1.fr, h2.fr, h3.fr]
theorem m12 {n : Nat} {v1 v2 v3 : D} {s1 s2 s3 : Str} (h1 : Fz v1) (h2 : Fz v2) (h3 : Fz v3) (e1 : reprD v1 = some s1) (e2 : reprD v2 = some s2) (e3 : reprD v3 = some s3) : callF tx.T tx.gv tx.tb (n + 1) 4 [.exc 13 [v1]] = .ok (.lst true [.tup [.str "notthere", v1]]) [none] := by
  rw [callF_succ (d := d4) rfl]
  unfold bodyF d4 c4
  simp [runs, PI.run, ev, eva, evs, bd, ofO, rdS, ard, ardD, truM, truth, outsOf, finF, startE, ioOk, asgT, cx_T, cx_F, isLst, setSlot, appD, q_isiX, at_13_paper, q_repr, e1, e2, e3, ow_exc, fr_exc, ow_lst, fr_lst, ow_str, fr_str, fr_tup, h1.ow, h2.ow, h3.ow, h1.fr, h2.fr, h3.fr]
theorem o12 {n : Nat} {v1 v2 v3 : D} {s1 s2 s3 : Str} (h1 : Fz v1) (h2 : Fz v2) (h3 : Fz v3) (e1 : reprD v1 = some s1) (e2 : reprD v2 = some s2) (e3 : reprD v3 = some s3) : callF tx.T tx.gv tx.tb (n + 2) 3 [.exc 13 [v1]] = .ok (.lst true [.tup [.str "notthere", v1]]) [none] := by
  have e := m12 (n := n) h1 h2 h3 e1 e2 e3
  rw [callF_succ (d := d3) rfl]
  unfold bodyF d3 c3
  simp [runs, PI.run, ev, eva, evs, bd, ofO, rdS, ard, ardD, truM, truth, outsOf, finF, startE, ioOk, asgT, cx_T, cx_F, arc, callR, putB, okIo, noIx, lentB, isLst, setSlot, appD, q_addL, ln1, q_isiX, at_13_paper, q_repr, e1, e2, e3, e, ow_exc, fr_exc, ow_lst, fr_lst, ow_str, fr_str, fr_tup, h1.ow, h2.ow, h3.ow, h1.fr, h2.fr, h3.fr]
theorem told12 {n : Nat} {v1 v2 v3 : D} {s1 s2 s3 : Str} (h1 : Fz v1) (h2 : Fz v2) (h3 : Fz v3) (e1 : reprD v1 = some s1) (e2 : reprD v2 = some s2) (e3 : reprD v3 = some s3) : callF tx.T tx.gv tx.tb (n + 3) 9 [.int 12, v1, v2, v3] = .ok (.lst false [.tup [.str "notthere", v1]]) [none, none, none, none] := by
  have e := o12 (n := n) h1 h2 h3 e1 e2 e3
  have f0 := r12_6 (n := n + 1) h1 h2 h3
  have f1 := r12_7 (n := n + 1) h1 h2 h3
  rw [callF_succ (d := d9) rfl]
  unfold bodyF d9 c9
  simp [runs, PI.run, ev, eva, evs, bd, ofO, rdS, ard, ardD, truM, truth, outsOf, finF, startE, ioOk, asgT, cx_T, cx_F, arc, callR, putB, okIo, noIx, lentB, q_isiV, sub_0, noXe, noXf, D.noX, D.noXs, f0, f1, e, ow_non, fr_non, ow_int, fr_int, ow_exc, fr_exc, ow_lst, fr_lst, ow_str, fr_str, fr_tup, h1.ow, h2.ow, h3.ow, h1.fr, h2.fr, h3.fr, h1.nx, h2.nx, h3.nx]
theorem due12 {n : Nat} {v1 v2 v3 : D} {s1 s2 s3 : Str} (h1 : Fz v1) (h2 : Fz v2) (h3 : Fz v3) (e1 : reprD v1 = some s1) (e2 : reprD v2 = some s2) (e3 : reprD v3 = some s3) : callF tx.T tx.gv tx.tb (n + 1) 10 [.int 12, v1, v2, v3] = .ok (.tup [.str "notthere", v1]) [none, none, none, none] := by
  have i0 : pr tx.T .isin [.int 12, .tup [.int 0, .int 1, .int 8]] = some (.bl false) := by rfl
  have i1 : pr tx.T .isin [.int 12, .tup [.int 2, .int 3, .int 4, .int 5, .int 11, .int 12]] = some (.bl true) := by rfl
  have i2 : pr tx.T .isin [.int 12, .tup [.int 6, .int 9, .int 10]] = some (.bl false) := by rfl
  have i3 : pr tx.T .isin [.int 12, .tup [.int 7, .int 14]] = some (.bl false) := by rfl
  have wd : pr tx.T .idx [.lst false [.str "number", .str "row", .str "table", .str "poly", .str "base", .str "book", .str "badname", .str "text", .str "place", .str "noname", .str "taken", .str "unlike", .str "notthere", .str "many", .str "kept", .str "undo", .str "redo"], .int 12] = some (.str "notthere") := by rfl
  have ad : pr tx.T .add [.lst false [.str "number", .str "row", .str "table", .str "poly", .str "base", .str "book", .str "badname", .str "text", .str "place"], .lst false [.str "noname", .str "taken", .str "unlike", .str "notthere", .str "many", .str "kept", .str "undo", .str "redo"]] = some (.lst true [.str "number", .str "row", .str "table", .str "poly", .str "base", .str "book", .str "badname", .str "text", .str "place", .str "noname", .str "taken", .str "unlike", .str "notthere", .str "many", .str "kept", .str "undo", .str "redo"]) := by rfl
  rw [callF_succ (d := d10) rfl]
  unfold bodyF d10 c10
  simp [runs, PI.run, ev, eva, evs, bd, ofO, rdS, ard, ardD, truM, truth, outsOf, finF, startE, ioOk, asgT, cx_T, cx_F, ad, wd, i0, i1, i2, i3, q_eq, q_repr, e1, e2, e3, ow_int, fr_int, ow_lst, fr_lst, ow_str, fr_str, ow_tup, fr_tup, h1.ow, h2.ow, h3.ow, h1.fr, h2.fr, h3.fr]
theorem m13 {n : Nat} {v1 v2 v3 : D} {s1 s2 s3 : Str} (h1 : Fz v1) (h2 : Fz v2) (h3 : Fz v3) (e1 : reprD v1 = some s1) (e2 : reprD v2 = some s2) (e3 : reprD v3 = some s3) : callF tx.T tx.gv tx.tb (n + 1) 4 [.exc 14 [v1, v2, v3]] = .ok (.lst true [.tup [.str "many", v1, v2, v3]]) [none] := by
  rw [callF_succ (d := d4) rfl]
  unfold bodyF d4 c4
  simp [runs, PI.run, ev, eva, evs, bd, ofO, rdS, ard, ardD, truM, truth, outsOf, finF, startE, ioOk, asgT, cx_T, cx_F, isLst, setSlot, appD, q_isiX, at_14_what, at_14_many, at_14_limit, q_repr, e1, e2, e3, ow_exc, fr_exc, ow_lst, fr_lst, ow_str, fr_str, fr_tup, h1.ow, h2.ow, h3.ow, h1.fr, h2.fr, h3.fr]
theorem o13 {n : Nat} {v1 v2 v3 : D} {s1 s2 s3 : Str} (h1 : Fz v1) (h2 : Fz v2) (h3 : Fz v3) (e1 : reprD v1 = some s1) (e2 : reprD v2 = some s2) (e3 : reprD v3 = some s3) : callF tx.T tx.gv tx.tb (n + 2) 3 [.exc 14 [v1, v2, v3]] = .ok (.lst true [.tup [.str "many", v1, v2, v3]]) [none] := by
  have e := m13 (n := n) h1 h2 h3 e1 e2 e3
  rw [callF_succ (d := d3) rfl]
  unfold bodyF d3 c3
  simp [runs, PI.run, ev, eva, evs, bd, ofO, rdS, ard, ardD, truM, truth, outsOf, finF, startE, ioOk, asgT, cx_T, cx_F, arc, callR, putB, okIo, noIx, lentB, isLst, setSlot, appD, q_addL, ln1, q_isiX, at_14_what, at_14_many, at_14_limit, q_repr, e1, e2, e3, e, ow_exc, fr_exc, ow_lst, fr_lst, ow_str, fr_str, fr_tup, h1.ow, h2.ow, h3.ow, h1.fr, h2.fr, h3.fr]
theorem told13 {n : Nat} {v1 v2 v3 : D} {s1 s2 s3 : Str} (h1 : Fz v1) (h2 : Fz v2) (h3 : Fz v3) (e1 : reprD v1 = some s1) (e2 : reprD v2 = some s2) (e3 : reprD v3 = some s3) : callF tx.T tx.gv tx.tb (n + 3) 9 [.int 13, v1, v2, v3] = .ok (.lst false [.tup [.str "many", v1, v2, v3]]) [none, none, none, none] := by
  have e := o13 (n := n) h1 h2 h3 e1 e2 e3
  have f0 := r13_6 (n := n + 1) h1 h2 h3
  have f1 := r13_7 (n := n + 1) h1 h2 h3
  rw [callF_succ (d := d9) rfl]
  unfold bodyF d9 c9
  simp [runs, PI.run, ev, eva, evs, bd, ofO, rdS, ard, ardD, truM, truth, outsOf, finF, startE, ioOk, asgT, cx_T, cx_F, arc, callR, putB, okIo, noIx, lentB, q_isiV, sub_0, noXe, noXf, D.noX, D.noXs, f0, f1, e, ow_non, fr_non, ow_int, fr_int, ow_exc, fr_exc, ow_lst, fr_lst, ow_str, fr_str, fr_tup, h1.ow, h2.ow, h3.ow, h1.fr, h2.fr, h3.fr, h1.nx, h2.nx, h3.nx]
theorem due13 {n : Nat} {v1 v2 v3 : D} {s1 s2 s3 : Str} (h1 : Fz v1) (h2 : Fz v2) (h3 : Fz v3) (e1 : reprD v1 = some s1) (e2 : reprD v2 = some s2) (e3 : reprD v3 = some s3) : callF tx.T tx.gv tx.tb (n + 1) 10 [.int 13, v1, v2, v3] = .ok (.tup [.str "many", v1, v2, v3]) [none, none, none, none] := by
  have i0 : pr tx.T .isin [.int 13, .tup [.int 0, .int 1, .int 8]] = some (.bl false) := by rfl
  have i1 : pr tx.T .isin [.int 13, .tup [.int 2, .int 3, .int 4, .int 5, .int 11, .int 12]] = some (.bl false) := by rfl
  have i2 : pr tx.T .isin [.int 13, .tup [.int 6, .int 9, .int 10]] = some (.bl false) := by rfl
  have i3 : pr tx.T .isin [.int 13, .tup [.int 7, .int 14]] = some (.bl false) := by rfl
  have wd : pr tx.T .idx [.lst false [.str "number", .str "row", .str "table", .str "poly", .str "base", .str "book", .str "badname", .str "text", .str "place", .str "noname", .str "taken", .str "unlike", .str "notthere", .str "many", .str "kept", .str "undo", .str "redo"], .int 13] = some (.str "many") := by rfl
  have ad : pr tx.T .add [.lst false [.str "number", .str "row", .str "table", .str "poly", .str "base", .str "book", .str "badname", .str "text", .str "place"], .lst false [.str "noname", .str "taken", .str "unlike", .str "notthere", .str "many", .str "kept", .str "undo", .str "redo"]] = some (.lst true [.str "number", .str "row", .str "table", .str "poly", .str "base", .str "book", .str "badname", .str "text", .str "place", .str "noname", .str "taken", .str "unlike", .str "notthere", .str "many", .str "kept", .str "undo", .str "redo"]) := by rfl
  rw [callF_succ (d := d10) rfl]
  unfold bodyF d10 c10
  simp [runs, PI.run, ev, eva, evs, bd, ofO, rdS, ard, ardD, truM, truth, outsOf, finF, startE, ioOk, asgT, cx_T, cx_F, ad, wd, i0, i1, i2, i3, q_eq, q_repr, e1, e2, e3, ow_int, fr_int, ow_lst, fr_lst, ow_str, fr_str, ow_tup, fr_tup, h1.ow, h2.ow, h3.ow, h1.fr, h2.fr, h3.fr]
theorem m14 {n : Nat} {v1 v2 v3 : D} {s1 s2 s3 : Str} (h1 : Fz v1) (h2 : Fz v2) (h3 : Fz v3) (e1 : reprD v1 = some s1) (e2 : reprD v2 = some s2) (e3 : reprD v3 = some s3) : callF tx.T tx.gv tx.tb (n + 1) 4 [.exc 15 [v1, v2]] = .ok (.lst true [.tup [.str "kept", v1, v2]]) [none] := by
  rw [callF_succ (d := d4) rfl]
  unfold bodyF d4 c4
  simp [runs, PI.run, ev, eva, evs, bd, ofO, rdS, ard, ardD, truM, truth, outsOf, finF, startE, ioOk, asgT, cx_T, cx_F, isLst, setSlot, appD, q_isiX, at_15_promise, at_15_witness, q_repr, e1, e2, e3, ow_exc, fr_exc, ow_lst, fr_lst, ow_str, fr_str, fr_tup, h1.ow, h2.ow, h3.ow, h1.fr, h2.fr, h3.fr]
theorem o14 {n : Nat} {v1 v2 v3 : D} {s1 s2 s3 : Str} (h1 : Fz v1) (h2 : Fz v2) (h3 : Fz v3) (e1 : reprD v1 = some s1) (e2 : reprD v2 = some s2) (e3 : reprD v3 = some s3) : callF tx.T tx.gv tx.tb (n + 2) 3 [.exc 15 [v1, v2]] = .ok (.lst true [.tup [.str "kept", v1, v2]]) [none] := by
  have e := m14 (n := n) h1 h2 h3 e1 e2 e3
  rw [callF_succ (d := d3) rfl]
  unfold bodyF d3 c3
  simp [runs, PI.run, ev, eva, evs, bd, ofO, rdS, ard, ardD, truM, truth, outsOf, finF, startE, ioOk, asgT, cx_T, cx_F, arc, callR, putB, okIo, noIx, lentB, isLst, setSlot, appD, q_addL, ln1, q_isiX, at_15_promise, at_15_witness, q_repr, e1, e2, e3, e, ow_exc, fr_exc, ow_lst, fr_lst, ow_str, fr_str, fr_tup, h1.ow, h2.ow, h3.ow, h1.fr, h2.fr, h3.fr]
theorem told14 {n : Nat} {v1 v2 v3 : D} {s1 s2 s3 : Str} (h1 : Fz v1) (h2 : Fz v2) (h3 : Fz v3) (e1 : reprD v1 = some s1) (e2 : reprD v2 = some s2) (e3 : reprD v3 = some s3) : callF tx.T tx.gv tx.tb (n + 3) 9 [.int 14, v1, v2, v3] = .ok (.lst false [.tup [.str "kept", v1, v2]]) [none, none, none, none] := by
  have e := o14 (n := n) h1 h2 h3 e1 e2 e3
  have f0 := r14_6 (n := n + 1) h1 h2 h3
  have f1 := r14_7 (n := n + 1) h1 h2 h3
  have f2 := r14_8 (n := n + 1) h1 h2 h3
  rw [callF_succ (d := d9) rfl]
  unfold bodyF d9 c9
  simp [runs, PI.run, ev, eva, evs, bd, ofO, rdS, ard, ardD, truM, truth, outsOf, finF, startE, ioOk, asgT, cx_T, cx_F, arc, callR, putB, okIo, noIx, lentB, q_isiV, sub_0, noXe, noXf, D.noX, D.noXs, f0, f1, f2, e, ow_non, fr_non, ow_int, fr_int, ow_exc, fr_exc, ow_lst, fr_lst, ow_str, fr_str, fr_tup, h1.ow, h2.ow, h3.ow, h1.fr, h2.fr, h3.fr, h1.nx, h2.nx, h3.nx]
theorem due14 {n : Nat} {v1 v2 v3 : D} {s1 s2 s3 : Str} (h1 : Fz v1) (h2 : Fz v2) (h3 : Fz v3) (e1 : reprD v1 = some s1) (e2 : reprD v2 = some s2) (e3 : reprD v3 = some s3) : callF tx.T tx.gv tx.tb (n + 1) 10 [.int 14, v1, v2, v3] = .ok (.tup [.str "kept", v1, v2]) [none, none, none, none] := by
  have i0 : pr tx.T .isin [.int 14, .tup [.int 0, .int 1, .int 8]] = some (.bl false) := by rfl
  have i1 : pr tx.T .isin [.int 14, .tup [.int 2, .int 3, .int 4, .int 5, .int 11, .int 12]] = some (.bl false) := by rfl
  have i2 : pr tx.T .isin [.int 14, .tup [.int 6, .int 9, .int 10]] = some (.bl false) := by rfl
  have i3 : pr tx.T .isin [.int 14, .tup [.int 7, .int 14]] = some (.bl true) := by rfl
  have wd : pr tx.T .idx [.lst false [.str "number", .str "row", .str "table", .str "poly", .str "base", .str "book", .str "badname", .str "text", .str "place", .str "noname", .str "taken", .str "unlike", .str "notthere", .str "many", .str "kept", .str "undo", .str "redo"], .int 14] = some (.str "kept") := by rfl
  have ad : pr tx.T .add [.lst false [.str "number", .str "row", .str "table", .str "poly", .str "base", .str "book", .str "badname", .str "text", .str "place"], .lst false [.str "noname", .str "taken", .str "unlike", .str "notthere", .str "many", .str "kept", .str "undo", .str "redo"]] = some (.lst true [.str "number", .str "row", .str "table", .str "poly", .str "base", .str "book", .str "badname", .str "text", .str "place", .str "noname", .str "taken", .str "unlike", .str "notthere", .str "many", .str "kept", .str "undo", .str "redo"]) := by rfl
  rw [callF_succ (d := d10) rfl]
  unfold bodyF d10 c10
  simp [runs, PI.run, ev, eva, evs, bd, ofO, rdS, ard, ardD, truM, truth, outsOf, finF, startE, ioOk, asgT, cx_T, cx_F, ad, wd, i0, i1, i2, i3, q_eq, q_repr, e1, e2, e3, ow_int, fr_int, ow_lst, fr_lst, ow_str, fr_str, ow_tup, fr_tup, h1.ow, h2.ow, h3.ow, h1.fr, h2.fr, h3.fr]
theorem m15 {n : Nat} {v1 v2 v3 : D} {s1 s2 s3 : Str} (h1 : Fz v1) (h2 : Fz v2) (h3 : Fz v3) (e1 : reprD v1 = some s1) (e2 : reprD v2 = some s2) (e3 : reprD v3 = some s3) : callF tx.T tx.gv tx.tb (n + 1) 4 [.exc 16 []] = .ok (.lst true [.tup [.str "undo"]]) [none] := by
  rw [callF_succ (d := d4) rfl]
  unfold bodyF d4 c4
  simp [runs, PI.run, ev, eva, evs, bd, ofO, rdS, ard, ardD, truM, truth, outsOf, finF, startE, ioOk, asgT, cx_T, cx_F, isLst, setSlot, appD, q_isiX, q_repr, e1, e2, e3, ow_exc, fr_exc, ow_lst, fr_lst, ow_str, fr_str, fr_tup, h1.ow, h2.ow, h3.ow, h1.fr, h2.fr, h3.fr]
theorem o15 {n : Nat} {v1 v2 v3 : D} {s1 s2 s3 : Str} (h1 : Fz v1) (h2 : Fz v2) (h3 : Fz v3) (e1 : reprD v1 = some s1) (e2 : reprD v2 = some s2) (e3 : reprD v3 = some s3) : callF tx.T tx.gv tx.tb (n + 2) 3 [.exc 16 []] = .ok (.lst true [.tup [.str "undo"]]) [none] := by
  have e := m15 (n := n) h1 h2 h3 e1 e2 e3
  rw [callF_succ (d := d3) rfl]
  unfold bodyF d3 c3
  simp [runs, PI.run, ev, eva, evs, bd, ofO, rdS, ard, ardD, truM, truth, outsOf, finF, startE, ioOk, asgT, cx_T, cx_F, arc, callR, putB, okIo, noIx, lentB, isLst, setSlot, appD, q_addL, ln1, q_isiX, q_repr, e1, e2, e3, e, ow_exc, fr_exc, ow_lst, fr_lst, ow_str, fr_str, fr_tup, h1.ow, h2.ow, h3.ow, h1.fr, h2.fr, h3.fr]
theorem told15 {n : Nat} {v1 v2 v3 : D} {s1 s2 s3 : Str} (h1 : Fz v1) (h2 : Fz v2) (h3 : Fz v3) (e1 : reprD v1 = some s1) (e2 : reprD v2 = some s2) (e3 : reprD v3 = some s3) : callF tx.T tx.gv tx.tb (n + 3) 9 [.int 15, v1, v2, v3] = .ok (.lst false [.tup [.str "undo"]]) [none, none, none, none] := by
  have e := o15 (n := n) h1 h2 h3 e1 e2 e3
  have f0 := r15_6 (n := n + 1) h1 h2 h3
  have f1 := r15_7 (n := n + 1) h1 h2 h3
  have f2 := r15_8 (n := n + 1) h1 h2 h3
  rw [callF_succ (d := d9) rfl]
  unfold bodyF d9 c9
  simp [runs, PI.run, ev, eva, evs, bd, ofO, rdS, ard, ardD, truM, truth, outsOf, finF, startE, ioOk, asgT, cx_T, cx_F, arc, callR, putB, okIo, noIx, lentB, q_isiV, sub_0, noXe, noXf, D.noX, D.noXs, f0, f1, f2, e, ow_non, fr_non, ow_int, fr_int, ow_exc, fr_exc, ow_lst, fr_lst, ow_str, fr_str, fr_tup, h1.ow, h2.ow, h3.ow, h1.fr, h2.fr, h3.fr, h1.nx, h2.nx, h3.nx]
theorem due15 {n : Nat} {v1 v2 v3 : D} {s1 s2 s3 : Str} (h1 : Fz v1) (h2 : Fz v2) (h3 : Fz v3) (e1 : reprD v1 = some s1) (e2 : reprD v2 = some s2) (e3 : reprD v3 = some s3) : callF tx.T tx.gv tx.tb (n + 1) 10 [.int 15, v1, v2, v3] = .ok (.tup [.str "undo"]) [none, none, none, none] := by
  have i0 : pr tx.T .isin [.int 15, .tup [.int 0, .int 1, .int 8]] = some (.bl false) := by rfl
  have i1 : pr tx.T .isin [.int 15, .tup [.int 2, .int 3, .int 4, .int 5, .int 11, .int 12]] = some (.bl false) := by rfl
  have i2 : pr tx.T .isin [.int 15, .tup [.int 6, .int 9, .int 10]] = some (.bl false) := by rfl
  have i3 : pr tx.T .isin [.int 15, .tup [.int 7, .int 14]] = some (.bl false) := by rfl
  have wd : pr tx.T .idx [.lst false [.str "number", .str "row", .str "table", .str "poly", .str "base", .str "book", .str "badname", .str "text", .str "place", .str "noname", .str "taken", .str "unlike", .str "notthere", .str "many", .str "kept", .str "undo", .str "redo"], .int 15] = some (.str "undo") := by rfl
  have ad : pr tx.T .add [.lst false [.str "number", .str "row", .str "table", .str "poly", .str "base", .str "book", .str "badname", .str "text", .str "place"], .lst false [.str "noname", .str "taken", .str "unlike", .str "notthere", .str "many", .str "kept", .str "undo", .str "redo"]] = some (.lst true [.str "number", .str "row", .str "table", .str "poly", .str "base", .str "book", .str "badname", .str "text", .str "place", .str "noname", .str "taken", .str "unlike", .str "notthere", .str "many", .str "kept", .str "undo", .str "redo"]) := by rfl
  rw [callF_succ (d := d10) rfl]
  unfold bodyF d10 c10
  simp [runs, PI.run, ev, eva, evs, bd, ofO, rdS, ard, ardD, truM, truth, outsOf, finF, startE, ioOk, asgT, cx_T, cx_F, ad, wd, i0, i1, i2, i3, q_eq, q_repr, e1, e2, e3, ow_int, fr_int, ow_lst, fr_lst, ow_str, fr_str, ow_tup, fr_tup, h1.ow, h2.ow, h3.ow, h1.fr, h2.fr, h3.fr]
theorem m16 {n : Nat} {v1 v2 v3 : D} {s1 s2 s3 : Str} (h1 : Fz v1) (h2 : Fz v2) (h3 : Fz v3) (e1 : reprD v1 = some s1) (e2 : reprD v2 = some s2) (e3 : reprD v3 = some s3) : callF tx.T tx.gv tx.tb (n + 1) 4 [.exc 17 []] = .ok (.lst true [.tup [.str "redo"]]) [none] := by
  rw [callF_succ (d := d4) rfl]
  unfold bodyF d4 c4
  simp [runs, PI.run, ev, eva, evs, bd, ofO, rdS, ard, ardD, truM, truth, outsOf, finF, startE, ioOk, asgT, cx_T, cx_F, isLst, setSlot, appD, q_isiX, q_repr, e1, e2, e3, ow_exc, fr_exc, ow_lst, fr_lst, ow_str, fr_str, fr_tup, h1.ow, h2.ow, h3.ow, h1.fr, h2.fr, h3.fr]
theorem o16 {n : Nat} {v1 v2 v3 : D} {s1 s2 s3 : Str} (h1 : Fz v1) (h2 : Fz v2) (h3 : Fz v3) (e1 : reprD v1 = some s1) (e2 : reprD v2 = some s2) (e3 : reprD v3 = some s3) : callF tx.T tx.gv tx.tb (n + 2) 3 [.exc 17 []] = .ok (.lst true [.tup [.str "redo"]]) [none] := by
  have e := m16 (n := n) h1 h2 h3 e1 e2 e3
  rw [callF_succ (d := d3) rfl]
  unfold bodyF d3 c3
  simp [runs, PI.run, ev, eva, evs, bd, ofO, rdS, ard, ardD, truM, truth, outsOf, finF, startE, ioOk, asgT, cx_T, cx_F, arc, callR, putB, okIo, noIx, lentB, isLst, setSlot, appD, q_addL, ln1, q_isiX, q_repr, e1, e2, e3, e, ow_exc, fr_exc, ow_lst, fr_lst, ow_str, fr_str, fr_tup, h1.ow, h2.ow, h3.ow, h1.fr, h2.fr, h3.fr]
theorem told16 {n : Nat} {v1 v2 v3 : D} {s1 s2 s3 : Str} (h1 : Fz v1) (h2 : Fz v2) (h3 : Fz v3) (e1 : reprD v1 = some s1) (e2 : reprD v2 = some s2) (e3 : reprD v3 = some s3) : callF tx.T tx.gv tx.tb (n + 3) 9 [.int 16, v1, v2, v3] = .ok (.lst false [.tup [.str "redo"]]) [none, none, none, none] := by
  have e := o16 (n := n) h1 h2 h3 e1 e2 e3
  have f0 := r16_6 (n := n + 1) h1 h2 h3
  have f1 := r16_7 (n := n + 1) h1 h2 h3
  have f2 := r16_8 (n := n + 1) h1 h2 h3
  rw [callF_succ (d := d9) rfl]
  unfold bodyF d9 c9
  simp [runs, PI.run, ev, eva, evs, bd, ofO, rdS, ard, ardD, truM, truth, outsOf, finF, startE, ioOk, asgT, cx_T, cx_F, arc, callR, putB, okIo, noIx, lentB, q_isiV, sub_0, noXe, noXf, D.noX, D.noXs, f0, f1, f2, e, ow_non, fr_non, ow_int, fr_int, ow_exc, fr_exc, ow_lst, fr_lst, ow_str, fr_str, fr_tup, h1.ow, h2.ow, h3.ow, h1.fr, h2.fr, h3.fr, h1.nx, h2.nx, h3.nx]
theorem due16 {n : Nat} {v1 v2 v3 : D} {s1 s2 s3 : Str} (h1 : Fz v1) (h2 : Fz v2) (h3 : Fz v3) (e1 : reprD v1 = some s1) (e2 : reprD v2 = some s2) (e3 : reprD v3 = some s3) : callF tx.T tx.gv tx.tb (n + 1) 10 [.int 16, v1, v2, v3] = .ok (.tup [.str "redo"]) [none, none, none, none] := by
  have i0 : pr tx.T .isin [.int 16, .tup [.int 0, .int 1, .int 8]] = some (.bl false) := by rfl
  have i1 : pr tx.T .isin [.int 16, .tup [.int 2, .int 3, .int 4, .int 5, .int 11, .int 12]] = some (.bl false) := by rfl
  have i2 : pr tx.T .isin [.int 16, .tup [.int 6, .int 9, .int 10]] = some (.bl false) := by rfl
  have i3 : pr tx.T .isin [.int 16, .tup [.int 7, .int 14]] = some (.bl false) := by rfl
  have wd : pr tx.T .idx [.lst false [.str "number", .str "row", .str "table", .str "poly", .str "base", .str "book", .str "badname", .str "text", .str "place", .str "noname", .str "taken", .str "unlike", .str "notthere", .str "many", .str "kept", .str "undo", .str "redo"], .int 16] = some (.str "redo") := by rfl
  have ad : pr tx.T .add [.lst false [.str "number", .str "row", .str "table", .str "poly", .str "base", .str "book", .str "badname", .str "text", .str "place"], .lst false [.str "noname", .str "taken", .str "unlike", .str "notthere", .str "many", .str "kept", .str "undo", .str "redo"]] = some (.lst true [.str "number", .str "row", .str "table", .str "poly", .str "base", .str "book", .str "badname", .str "text", .str "place", .str "noname", .str "taken", .str "unlike", .str "notthere", .str "many", .str "kept", .str "undo", .str "redo"]) := by rfl
  rw [callF_succ (d := d10) rfl]
  unfold bodyF d10 c10
  simp [runs, PI.run, ev, eva, evs, bd, ofO, rdS, ard, ardD, truM, truth, outsOf, finF, startE, ioOk, asgT, cx_T, cx_F, ad, wd, i0, i1, i2, i3, q_eq, q_repr, e1, e2, e3, ow_int, fr_int, ow_lst, fr_lst, ow_str, fr_str, ow_tup, fr_tup, h1.ow, h2.ow, h3.ow, h1.fr, h2.fr, h3.fr]
end K01
namespace K01
open PySem PI
theorem fld_ok {v : D} (h : Fld v) : Fz v ∧ ∃ p, Shw v p 2000 3 := by
  rcases h with ⟨i, h0, h1, rfl⟩ | ⟨j, h0, h1, rfl⟩ | h
  · refine ⟨⟨rfl, rfl, rfl⟩, .list [.int i, .list []], ⟨rfl, ?_, rfl, by show 1921 + 2 + ((0 + 2) + 2 + 0) + 2 ≤ 2000; omega, by simp [PyData.depth, PyData.depthAll]⟩⟩
    have : i.natAbs.log2 < 62 := log2_62 (by omega)
    simp [PyData.showable, PyData.showableAll]
    omega
  · refine ⟨⟨rfl, rfl, rfl⟩, .tuple [.str "a", .tuple [.int j]], ⟨rfl, ?_, by rfl, ?_, by simp [PyData.depth, PyData.depthAll]⟩⟩
    · have : j.natAbs.log2 < 62 := log2_62 (by omega)
      simp [PyData.showable, PyData.showableAll]
      omega
    · have e : (("a" : String) : Str).length = 1 := by decide
      show (10 * (("a" : String) : Str).length + 2) + 2 + (((1921 + 2 + 0) + 3) + 2 + 0) + 3 ≤ 2000
      omega
  · simp only [fix9, List.mem_cons, List.not_mem_nil, or_false] at h
    rcases h with h | h | h | h | h | h | h | h | h <;> subst h
    · exact ⟨⟨rfl, rfl, rfl⟩, _, ⟨rfl, rfl, rfl, by decide +kernel, by decide +kernel⟩⟩
    · exact ⟨⟨rfl, rfl, rfl⟩, _, ⟨rfl, rfl, rfl, by decide +kernel, by decide +kernel⟩⟩
    · exact ⟨⟨rfl, rfl, rfl⟩, _, ⟨rfl, rfl, rfl, by decide +kernel, by decide +kernel⟩⟩
    · exact ⟨⟨rfl, rfl, rfl⟩, _, ⟨rfl, by decide +kernel, rfl, by decide +kernel, by decide +kernel⟩⟩
    · exact ⟨⟨rfl, rfl, rfl⟩, _, ⟨rfl, by decide +kernel, rfl, by decide +kernel, by decide +kernel⟩⟩
    · exact ⟨⟨rfl, rfl, rfl⟩, _, ⟨rfl, rfl, by decide +kernel, by decide +kernel, by decide +kernel⟩⟩
    · exact ⟨⟨rfl, rfl, rfl⟩, _, ⟨rfl, rfl, by decide +kernel, by decide +kernel, by decide +kernel⟩⟩
    · exact ⟨⟨rfl, rfl, rfl⟩, _, ⟨rfl, by decide +kernel, rfl, by decide +kernel, by decide +kernel⟩⟩
    · exact ⟨⟨rfl, rfl, rfl⟩, .dict [(.str "k", .int 1)], ⟨rfl, by decide +kernel, by decide +kernel, by decide +kernel, by decide +kernel⟩⟩
structure Told (n k : Nat) (v1 v2 v3 : D) : Prop where
  ex : ∃ ts s, callF tx.T tx.gv tx.tb (n + 3) 9 [.int k, v1, v2, v3] = .ok (.lst false [.tup ts]) [none, none, none, none] ∧ callF tx.T tx.gv tx.tb (n + 3) 10 [.int k, v1, v2, v3] = .ok (.tup ts) [none, none, none, none] ∧ reprD (.tup ts) = some s ∧ GoodS s
theorem shw_good {d : D} {p : PyData} {n m : Nat} (h : Shw d p n m) (hn : n ≤ 16777216) (hm : m ≤ 64) : ∃ s, reprD d = some s ∧ GoodS s := ⟨_, h.repr hn hm, (wid_ok p h.sh h.gd).2⟩
theorem kind_ok {n : Nat} {v1 v2 v3 : D} (f1 : Fld v1) (f2 : Fld v2) (f3 : Fld v3) : ∀ k : Nat, k < 17 → Told n k v1 v2 v3 := by
  obtain ⟨h1, p1, s1⟩ := fld_ok f1
  obtain ⟨h2, p2, s2⟩ := fld_ok f2
  obtain ⟨h3, p3, s3⟩ := fld_ok f3
  have e1 := s1.repr (by decide) (by decide)
  have e2 := s2.repr (by decide) (by decide)
  have e3 := s3.repr (by decide) (by decide)
  intro k hk
  match k, hk with
  | 0, _ =>
    have w0 : Shw (.str "number") (.str "number") 200 0 := ⟨rfl, rfl, by decide +kernel, by decide +kernel, by decide +kernel⟩
    obtain ⟨s, hs, hg⟩ := shw_good (Shw.tup3 w0 s1 s2.text) (by decide) (by decide)
    exact ⟨_, s, told0 h1 h2 h3 e1 e2 e3, due0 (n := n + 2) h1 h2 h3 e1 e2 e3, hs, hg⟩
  | 1, _ =>
    have w0 : Shw (.str "row") (.str "row") 200 0 := ⟨rfl, rfl, by decide +kernel, by decide +kernel, by decide +kernel⟩
    obtain ⟨s, hs, hg⟩ := shw_good (Shw.tup3 w0 s1 s2.text) (by decide) (by decide)
    exact ⟨_, s, told1 h1 h2 h3 e1 e2 e3, due1 (n := n + 2) h1 h2 h3 e1 e2 e3, hs, hg⟩
  | 2, _ =>
    have w0 : Shw (.str "table") (.str "table") 200 0 := ⟨rfl, rfl, by decide +kernel, by decide +kernel, by decide +kernel⟩
    obtain ⟨s, hs, hg⟩ := shw_good (Shw.tup2 w0 s1) (by decide) (by decide)
    exact ⟨_, s, told2 h1 h2 h3 e1 e2 e3, due2 (n := n + 2) h1 h2 h3 e1 e2 e3, hs, hg⟩
  | 3, _ =>
    have w0 : Shw (.str "poly") (.str "poly") 200 0 := ⟨rfl, rfl, by decide +kernel, by decide +kernel, by decide +kernel⟩
    obtain ⟨s, hs, hg⟩ := shw_good (Shw.tup2 w0 s1) (by decide) (by decide)
    exact ⟨_, s, told3 h1 h2 h3 e1 e2 e3, due3 (n := n + 2) h1 h2 h3 e1 e2 e3, hs, hg⟩
  | 4, _ =>
    have w0 : Shw (.str "base") (.str "base") 200 0 := ⟨rfl, rfl, by decide +kernel, by decide +kernel, by decide +kernel⟩
    obtain ⟨s, hs, hg⟩ := shw_good (Shw.tup2 w0 s1) (by decide) (by decide)
    exact ⟨_, s, told4 h1 h2 h3 e1 e2 e3, due4 (n := n + 2) h1 h2 h3 e1 e2 e3, hs, hg⟩
  | 5, _ =>
    have w0 : Shw (.str "book") (.str "book") 200 0 := ⟨rfl, rfl, by decide +kernel, by decide +kernel, by decide +kernel⟩
    obtain ⟨s, hs, hg⟩ := shw_good (Shw.tup2 w0 s1) (by decide) (by decide)
    exact ⟨_, s, told5 h1 h2 h3 e1 e2 e3, due5 (n := n + 2) h1 h2 h3 e1 e2 e3, hs, hg⟩
  | 6, _ =>
    have w0 : Shw (.str "badname") (.str "badname") 200 0 := ⟨rfl, rfl, by decide +kernel, by decide +kernel, by decide +kernel⟩
    obtain ⟨s, hs, hg⟩ := shw_good (Shw.tup2 w0 s1.text) (by decide) (by decide)
    exact ⟨_, s, told6 h1 h2 h3 e1 e2 e3, due6 (n := n + 2) h1 h2 h3 e1 e2 e3, hs, hg⟩
  | 7, _ =>
    have w0 : Shw (.str "text") (.str "text") 200 0 := ⟨rfl, rfl, by decide +kernel, by decide +kernel, by decide +kernel⟩
    obtain ⟨s, hs, hg⟩ := shw_good (Shw.tup3 w0 s1 s2) (by decide) (by decide)
    exact ⟨_, s, told7 h1 h2 h3 e1 e2 e3, due7 (n := n + 2) h1 h2 h3 e1 e2 e3, hs, hg⟩
  | 8, _ =>
    have w0 : Shw (.str "place") (.str "place") 200 0 := ⟨rfl, rfl, by decide +kernel, by decide +kernel, by decide +kernel⟩
    obtain ⟨s, hs, hg⟩ := shw_good (Shw.tup3 w0 s1 s2.text) (by decide) (by decide)
    exact ⟨_, s, told8 h1 h2 h3 e1 e2 e3, due8 (n := n + 2) h1 h2 h3 e1 e2 e3, hs, hg⟩
  | 9, _ =>
    have w0 : Shw (.str "noname") (.str "noname") 200 0 := ⟨rfl, rfl, by decide +kernel, by decide +kernel, by decide +kernel⟩
    obtain ⟨s, hs, hg⟩ := shw_good (Shw.tup2 w0 s1.text) (by decide) (by decide)
    exact ⟨_, s, told9 h1 h2 h3 e1 e2 e3, due9 (n := n + 2) h1 h2 h3 e1 e2 e3, hs, hg⟩
  | 10, _ =>
    have w0 : Shw (.str "taken") (.str "taken") 200 0 := ⟨rfl, rfl, by decide +kernel, by decide +kernel, by decide +kernel⟩
    obtain ⟨s, hs, hg⟩ := shw_good (Shw.tup2 w0 s1.text) (by decide) (by decide)
    exact ⟨_, s, told10 h1 h2 h3 e1 e2 e3, due10 (n := n + 2) h1 h2 h3 e1 e2 e3, hs, hg⟩
  | 11, _ =>
    have w0 : Shw (.str "unlike") (.str "unlike") 200 0 := ⟨rfl, rfl, by decide +kernel, by decide +kernel, by decide +kernel⟩
    obtain ⟨s, hs, hg⟩ := shw_good (Shw.tup2 w0 s1) (by decide) (by decide)
    exact ⟨_, s, told11 h1 h2 h3 e1 e2 e3, due11 (n := n + 2) h1 h2 h3 e1 e2 e3, hs, hg⟩
  | 12, _ =>
    have w0 : Shw (.str "notthere") (.str "notthere") 200 0 := ⟨rfl, rfl, by decide +kernel, by decide +kernel, by decide +kernel⟩
    obtain ⟨s, hs, hg⟩ := shw_good (Shw.tup2 w0 s1) (by decide) (by decide)
    exact ⟨_, s, told12 h1 h2 h3 e1 e2 e3, due12 (n := n + 2) h1 h2 h3 e1 e2 e3, hs, hg⟩
  | 13, _ =>
    have w0 : Shw (.str "many") (.str "many") 200 0 := ⟨rfl, rfl, by decide +kernel, by decide +kernel, by decide +kernel⟩
    obtain ⟨s, hs, hg⟩ := shw_good (Shw.tup4 w0 s1 s2 s3) (by decide) (by decide)
    exact ⟨_, s, told13 h1 h2 h3 e1 e2 e3, due13 (n := n + 2) h1 h2 h3 e1 e2 e3, hs, hg⟩
  | 14, _ =>
    have w0 : Shw (.str "kept") (.str "kept") 200 0 := ⟨rfl, rfl, by decide +kernel, by decide +kernel, by decide +kernel⟩
    obtain ⟨s, hs, hg⟩ := shw_good (Shw.tup3 w0 s1 s2) (by decide) (by decide)
    exact ⟨_, s, told14 h1 h2 h3 e1 e2 e3, due14 (n := n + 2) h1 h2 h3 e1 e2 e3, hs, hg⟩
  | 15, _ =>
    have w0 : Shw (.str "undo") (.str "undo") 200 0 := ⟨rfl, rfl, by decide +kernel, by decide +kernel, by decide +kernel⟩
    obtain ⟨s, hs, hg⟩ := shw_good (Shw.tup1 w0) (by decide) (by decide)
    exact ⟨_, s, told15 h1 h2 h3 e1 e2 e3, due15 (n := n + 2) h1 h2 h3 e1 e2 e3, hs, hg⟩
  | 16, _ =>
    have w0 : Shw (.str "redo") (.str "redo") 200 0 := ⟨rfl, rfl, by decide +kernel, by decide +kernel, by decide +kernel⟩
    obtain ⟨s, hs, hg⟩ := shw_good (Shw.tup1 w0) (by decide) (by decide)
    exact ⟨_, s, told16 h1 h2 h3 e1 e2 e3, due16 (n := n + 2) h1 h2 h3 e1 e2 e3, hs, hg⟩
  | k + 17, h => exact absurd h (by omega)
theorem pen_ok {n : Nat} {ns : List Int} : ∃ f, callF tx.T tx.gv tx.tb (n + 1) 0 [.scr ns] = .ok (pen true ns 0 0 0 f) [none] ∧ PenOk ns 0 0 0 f := by
  obtain ⟨ρ, e, h⟩ := forL_inv (ok := sameB [some (.scr ns), some (.int 0), none] [.d (.scr ns)]) (asg := asgT (.nm 2)) (body := runs (cxN tx n) (match c0 with | .cons _ (.cons (.for _ _ _ b) _) => b | _ => .nil))
    (fun l ρ => ∃ (f : Int) (o : Option D) (zs : List Int), ρ = [some (.scr ns), some (.int f), o] ∧ (0 ≤ f ∧ f < 2 ^ 31) ∧ l = zs.map D.int)
    (fun l ρ ⟨f, o, zs, e, _⟩ => rfl) (fun d l ρ ⟨f, o, zs, e, hf, el⟩ => by
      cases zs with
      | nil => cases el
      | cons z zs =>
        cases el
        subst e
        have m : mulOk f 47 = true := mulOk_of (by omega) (by decide)
        have b := fm_lt (a := f * 47 + z) (b := 1000000007) (by decide)
        refine ⟨[some (.scr ns), some (.int f), some (.int z)], [some (.scr ns), some (.int ((f * 47 + z).fmod 1000000007)), some (.int z)], rfl, .inl ?_, _, _, zs, rfl, by omega, rfl⟩
        unfold c0
        simp [runs, PI.run, ev, eva, evs, bd, ofO, rdS, ard, asgT, cx_T, q_mul, q_add, q_int, q_mod, m, ow_int, fr_int])
    (ns.map D.int) [some (.scr ns), some (.int 0), none] ⟨0, none, ns, rfl, by decide, rfl⟩
  obtain ⟨f, o, zs, rfl, hf, _⟩ := h
  refine ⟨f, ?_, by decide, by decide, by decide, hf⟩
  rw [callF_succ (d := d0) rfl]
  have hb : runs (cxN tx n) c0 [some (.scr ns), none, none] = .ok (.rt (pen true ns 0 0 0 f)) [some (.scr ns), some (.int f), o] := by
    have e2 := e
    unfold c0 at e2 ⊢
    simp only at e2
    rw [runs_cons (ρ1 := [some (.scr ns), some (.int 0), none]) (by simp [PI.run, ev, bd, asgT])]
    rw [runs_cons (run_for (ρ1 := [some (.scr ns), some (.int 0), none]) (as := [.d (.scr ns)]) (ds := ns.map .int) (by simp [ev, eva, evs, bd, rdS, D.own, D.fr]) (by simp [ard, walkD, seqD]) e2)]
    simp (decide := true) [runs, PI.run, ev, eva, evs, bd, ofO, rdS, ard, ardD, cx_T, q_list, seqD, D.own, D.fr, pen, keys]
  unfold bodyF
  show (if (decide ([D.scr ns].length = 1) && ioOk [] 0 [.scr ns]) = true then finF [.scr ns] (runs (cxN tx n) c0 [some (.scr ns), none, none]) else .stuck) = _
  rw [hb]
  rfl

end K01
namespace K01
open PySem PI
/-- the loop's body -/
def lb : CSs := match c11 with
  | .cons _ (.cons (.for _ _ _ b) _) => b
  | _ => .nil
theorem ow_dic {o : Bool} {a b : List D} : (D.dic o a b).own = o := rfl
theorem fr_dic {o : Bool} {a b : List D} : (D.dic o a b).fr = .dic false a b := rfl
theorem at_one {t : D} : L2.atI [t] 0 = some t := rfl
theorem step {ns : List Int} {a d c f : Int} {o3' o4' o5' o6' : Option D} {k : Nat} (hk : k < 17) (P : PenOk ns a d c f) (hc : c + 9 < 10 ^ 6) : ∃ a' d' c' f' o3 o4 o5 o6, runs (cxN tx 39) lb [some (.scr ns), some (pen true ns a d c f), some (.int k), o3', o4', o5', o6'] = .ok .nx [some (.scr ns), some (pen true ns a' d' c' f'), some (.int k), o3, o4, o5, o6] ∧ PenOk ns a' d' c' f' ∧ c' ≤ c + 9 := by
  obtain ⟨v1, a1, d1', c1', f1', e1, g1, P1, q1⟩ := any_field (n := 36) P (by omega)
  obtain ⟨v2, a2, d2', c2', f2', e2, g2, P2, q2⟩ := any_field (n := 36) P1 (by omega)
  obtain ⟨v3, a3, d3', c3', f3', e3, g3, P3, q3⟩ := any_field (n := 36) P2 (by omega)
  obtain ⟨ts, s, h1, h2, h3, h4⟩ := (kind_ok (n := 36) g1 g2 g3 k hk).ex
  have z1 := (fld_ok g1).1
  have z2 := (fld_ok g2).1
  have z3 := (fld_ok g3).1
  have hn := ne_text (T := tx.T) h4
  refine ⟨a3, d3', c3', f3', some (.lst false [.tup ts]), some v1.fr, some v2.fr, some v3.fr, ?_, P3, by omega⟩
  unfold lb c11
  simp only [pen] at e1 e2 e3 ⊢
  simp [runs, PI.run, ev, eva, evs, evo, bd, ofO, rdS, ard, ardD, arc, callR, putB, okIo, noIx, lentB, ordD, asgT, truM, truth, cx_T, cx_F, e1, e2, e3, h1, h2, h3, hn, q_is, sameD, q_lenL, q_ne, q_idxL, at_one, q_repr, ow_int, fr_int, ow_lst, fr_lst, ow_tup, fr_tup, fr_str, fr_non, z1.ow, z2.ow, z3.ow, z1.fr, z2.fr, z3.fr, ow_dic, fr_dic]
theorem c11_eq : c11 = .cons (.asg (.nm 1) (.call 0 (.cons (.ex (.var 0)) .nil))) (.cons (.for (.nm 2) .range (.cons (.ex (.int 17)) .nil) lb) (.cons (.ret (.bl true)) .nil)) := rfl
theorem lb_eq {C : PI.Ctx} {ρ ρ1 ρ2 : PI.Env} (h1 : PI.run C (.asg (.nm 1) (.call 0 (.cons (.ex (.var 0)) .nil))) ρ = .ok .nx ρ1) (h2 : PI.run C (.for (.nm 2) .range (.cons (.ex (.int 17)) .nil) lb) ρ1 = .ok .nx ρ2) : runs C c11 ρ = .ok (.rt (.bl true)) ρ2 := by
  rw [c11_eq, runs_cons h1, runs_cons h2]
  simp [runs, PI.run, ev, bd]
theorem plain : ∀ ns : List Int, ns.length ≤ 63 → (∀ k ∈ ns, Builtin.Int.intBits k ≤ 1048576) → callF tx.T tx.gv tx.tb 40 lf [.scr ns] = .ok (.bl true) [none] := by
  intro ns _ _
  obtain ⟨f, e0, P0⟩ := pen_ok (n := 38) (ns := ns)
  obtain ⟨ρ', e, h⟩ := forL_inv (ok := sameB [some (.scr ns), some (pen true ns 0 0 0 f), none, none, none, none, none] [.d (.int 17)]) (asg := asgT (.nm 2)) (body := runs (cxN tx 39) lb)
    (fun l ρ => ∃ a d c g o2 o3 o4 o5 o6, ∃ ks : List Nat, ρ = [some (.scr ns), some (pen true ns a d c g), o2, o3, o4, o5, o6] ∧ PenOk ns a d c g ∧ c + 9 * ks.length ≤ 900 ∧ (∀ k ∈ ks, k < 17) ∧ l = ks.map fun k : Nat => D.int (0 + (k : Int)))
    (fun l ρ _ => rfl) (fun x l ρ ⟨a, d, c, g, o2, o3, o4, o5, o6, ks, er, P, hc, hk, el⟩ => by
      cases ks with
      | nil => cases el
      | cons k ks =>
        cases el
        subst er
        have hc' : c + 9 * (ks.length + 1 : Nat) ≤ 900 := hc
        obtain ⟨a', d', c', g', p3, p4, p5, p6, q1, q2, q3⟩ := step (ns := ns) (o3' := o3) (o4' := o4) (o5' := o5) (o6' := o6) (hk k List.mem_cons_self) P (by omega)
        refine ⟨[some (.scr ns), some (pen true ns a d c g), some (.int k), o3, o4, o5, o6], _, ?_, .inl q1, a', d', c', g', _, p3, p4, p5, p6, ks, rfl, q2, by omega, fun j hj => hk j (List.mem_cons_of_mem _ hj), rfl⟩
        show some _ = some _
        simp)
    ((List.range 17).map fun k : Nat => D.int (0 + (k : Int))) [some (.scr ns), some (pen true ns 0 0 0 f), none, none, none, none, none] ⟨0, 0, 0, f, none, none, none, none, none, List.range 17, rfl, P0, by decide, fun k hk => List.mem_range.mp hk, rfl⟩
  rw [show lf = 11 from rfl, callF_succ (d := d11) rfl]
  have h1 : PI.run (cxN tx 39) (.asg (.nm 1) (.call 0 (.cons (.ex (.var 0)) .nil))) [some (.scr ns), none, none, none, none, none, none] = .ok .nx [some (.scr ns), some (pen true ns 0 0 0 f), none, none, none, none, none] := by
    simp only [pen] at e0 ⊢
    simp [PI.run, ev, eva, evs, bd, rdS, arc, callR, putB, okIo, noIx, lentB, asgT, cx_F, e0, D.own, D.fr]
  have h2 : PI.run (cxN tx 39) (.for (.nm 2) .range (.cons (.ex (.int 17)) .nil) lb) [some (.scr ns), some (pen true ns 0 0 0 f), none, none, none, none, none] = .ok .nx ρ' :=
    run_for (ρ1 := [some (.scr ns), some (pen true ns 0 0 0 f), none, none, none, none, none]) (as := [.d (.int 17)]) (ds := (List.range 17).map fun k : Nat => D.int (0 + (k : Int))) (by simp [ev, eva, evs, bd, D.fr]) (by rfl) e
  obtain ⟨a, d, c, g, o2, o3, o4, o5, o6, ks, rfl, _⟩ := h
  have hb := lb_eq h1 h2
  unfold bodyF
  show (if (decide ([D.scr ns].length = 1) && ioOk [] 0 [.scr ns]) = true then finF [.scr ns] (runs (cxN tx 39) c11 [some (.scr ns), none, none, none, none, none, none]) else .stuck) = _
  rw [hb]
  rfl
end K01
namespace K01
open PySem PI
abbrev R : PySem.W.OpenRow := PySem.W.OpenLaw.row PySem.Challenge.rw_rootfigures_k01_errors
def nm0 : List PySem.Str := ["RootError", "BadNumber", "BadRow", "BadTable", "BadPoly", "BadBase", "BadBook", "BadName", "BadText", "NoPlace", "NoName", "TakenName", "Unlike", "NotThere", "TooMany", "NotKept", "NothingToUndo", "NothingToRedo", "_law_pen", "_law_draw", "_law_pick", "_law_kinds", "_law_more_kinds", "_law_any_field", "_law_raised", "_law_raised_too", "_law_raised_last", "_law_told", "_law_due_fields"]
def nms : List PySem.Str := nm0
def ob (s : PySem.W.SharedT) : AlP := obsP 5 tx xs (HandSHeadRun.getT s)
theorem run (w : World) : HandSHeadRun.RunEq R (PySem.W.view R.prog [31]) (hookP 5 tx xs) ob 40000 nms w := by
  intro os
  kernel_rfl
end K01
open PySem PySem.W PySem.Calls PyProof.Rows
theorem PySem.Challenge.cw_rootfigures_k01_errors_holds : PySem.Challenge.rw_rootfigures_k01_errors.Holds := by
  w_on; o_law
  refine HandSHeadRun.head_any (r := OpenLaw.row PySem.Challenge.rw_rootfigures_k01_errors) (q := view (OpenLaw.row PySem.Challenge.rw_rootfigures_k01_errors).prog [31]) (H := PI.hookP 5 K01.tx K01.xs) (ob := K01.ob) (M := 40000) (loose := K01.nms) (d := HandSHeadRun.topDef (OpenLaw.row PySem.Challenge.rw_rootfigures_k01_errors).prog 31) (kwd := []) (fun s => PI.obsP_eq s)
    (by kernel_rfl) (fun s => by kernel_rfl) K01.run (by kernel_rfl) (by kernel_rfl) (by kernel_rfl) (by rfl) (by first | assumption | decide +kernel) (by decide +kernel) ⟨rfl, rfl, rfl, rfl, rfl, by decide +kernel⟩ ?hw ?hc
  case hw => w_witness2
  case hc => exact PI.law_walk (l := PySem.Challenge.rw_rootfigures_k01_errors) (n := 63) (f := K01.lf) (j := 5) rfl (by decide) (by kernel_rfl) (by decide) K01.all_ok K01.plain
