import PyProof.Rows.All
import Wide.All
import OpenK.AllK
import Wide.FinOn
import KE.KStateDown
import HandS.Head0
import HandS.Head1
import HandS.Head2
import HandS.HeadEnd
import HandS.HeadHook1
import HandS.HeadHook2
import HandS.ForMost
import HandS.IsInst
import HandS.Style
import HandS.Replace
import HandS.Exc
import HandS.TupAny
import HandS.Deep
import HandS.StrMore
import KE.LtData
import HandS.TupMul
import PyProof.StrLawsIn
import HandS.ExcOwn
import HandS.WordsExc
import HandS.Defaults
import PySem.Challenge.RW_foreaft_k01_words
set_option Elab.async false
set_option linter.all false
set_option autoImplicit false
set_option maxRecDepth 100000
set_option maxHeartbeats 0
/-! FAev: a small semantics of Python's data by value: frozen data D, owned trees O, environments, and what an expression or a statement makes of an environment. Plain Lean, no model in sight. -/
namespace FA

/-- frozen data -/
inductive D where
  | non | bl (b : Bool) | int (i : Int) | str (s : List Nat)
  | lst (ds : List D) | tup (ds : List D) | dic (kvs : List (D × D)) | ins (c : String) (fs : List (String × D))
  | scr (ns : List Int)
  deriving Repr, Inhabited
/-- owned trees -/
inductive O where
  | fz (d : D) | lst (os : List O) | tup (os : List O) | dic (kos : List (D × O)) | ins (c : String) (fs : List (String × O))
  deriving Repr, Inhabited

mutual
def O.fr : O → D
  | .fz d => d
  | .lst os => .lst (frs os)
  | .tup os => .tup (frs os)
  | .dic kos => .dic (frk kos)
  | .ins c fs => .ins c (frf fs)
def frs : List O → List D
  | [] => []
  | o :: r => o.fr :: frs r
def frk : List (D × O) → List (D × D)
  | [] => []
  | (k, o) :: r => (k, o.fr) :: frk r
def frf : List (String × O) → List (String × D)
  | [] => []
  | (k, o) :: r => (k, o.fr) :: frf r
end

abbrev Env := List (Option O)
inductive R (α : Type) where
  | ok (a : α) (ρ : Env)
  | exc (x : String) (ds : List D) (ρ : Env)
  | st
  deriving Repr
def R.bind {α β : Type} : R α → (α → Env → R β) → R β
  | .ok a ρ, f => f a ρ
  | .exc x ds ρ, _ => .exc x ds ρ
  | .st, _ => .st
def ofOpt {α : Type} : Option α → Env → R α
  | some a, ρ => .ok a ρ
  | none, _ => .st

/-- nothing may be raised here -/
def R.ne {α : Type} : R α → R α
  | .exc _ _ _ => .st
  | r => r
inductive Flow where
  | nx | brk | ret (o : O)
  deriving Repr
abbrev Px := Env → Option O
abbrev Ex := Env → R O
abbrev Tx := Env → R Bool
abbrev Itx := Env → R (List D)
abbrev Stx := Env → R Flow
abbrev Lx := Env → Option (Nat × List Nat)
/-- what a def does: from its arguments to its value and what becomes of the borrowed arguments -/
abbrev FSem := List O → R O

def line : Nat := 16777216

/-! ### operations upon data -/
mutual
/-- Python's == on plain data -/
def eqv : D → D → Bool
  | .non, .non => true
  | .bl a, .bl b => a == b
  | .int a, .int b => a == b
  | .bl a, .int b => (if a then 1 else 0) == b
  | .int a, .bl b => a == (if b then 1 else 0)
  | .str a, .str b => a == b
  | .lst a, .lst b => eqvs a b
  | .tup a, .tup b => eqvs a b
  | _, _ => false
def eqvs : List D → List D → Bool
  | [], [] => true
  | a :: r, b :: s => eqv a b && eqvs r s
  | _, _ => false
end
/-- none, bools, ints, texts -/
def flatD : D → Bool
  | .non => true
  | .bl _ => true
  | .int _ => true
  | .str _ => true
  | _ => false
def strOkD (s : List Nat) : Bool := s.all fun c => decide (c < 1114112)
/-- none, bools, ints, texts, lists and tuples of these, not too deep -/
def plainN : Nat → D → Bool
  | _, .non => true
  | _, .bl _ => true
  | _, .int _ => true
  | _, .str s => strOkD s
  | n + 1, .lst ds => ds.all (plainN n)
  | n + 1, .tup ds => ds.all (plainN n)
  | _, _ => false
def plain (d : D) : Bool := plainN 60 d
def plains (ds : List D) : Bool := ds.all plain
/-- == may be asked of them -/
def eqOk (a b : D) : Bool := (flatD a && flatD b) || (plain a && plain b)
def eqsOk (x : D) (ds : List D) : Bool := (flatD x && ds.all flatD) || (plain x && plains ds)
mutual
/-- what may be a key: no lists inside -/
def keyD : D → Bool
  | .lst _ => false
  | .tup ds => keyDs ds
  | .dic _ => false
  | .ins _ _ => false
  | .scr _ => false
  | _ => true
def keyDs : List D → Bool
  | [] => true
  | d :: r => keyD d && keyDs r
end
mutual
/-- the two can be compared, place by place -/
def alikeD : D → D → Bool
  | .non, .non => true
  | .bl _, .bl _ => true
  | .int _, .int _ => true
  | .str _, .str _ => true
  | .lst a, .lst b => alikeDs a b
  | .tup a, .tup b => alikeDs a b
  | _, _ => false
def alikeDs : List D → List D → Bool
  | a :: r, b :: s => alikeD a b && alikeDs r s
  | [], _ => true
  | _ :: _, [] => true
end
mutual
/-- Python's < upon such -/
def ltB : D → D → Bool
  | .bl a, .bl b => !a && b
  | .int a, .int b => decide (a < b)
  | .str a, .str b => decide (a < b)
  | .tup a, .tup b => ltBs a b
  | .lst a, .lst b => ltBs a b
  | _, _ => false
def ltBs : List D → List D → Bool
  | _, [] => false
  | [], _ :: _ => true
  | a :: r, b :: s => if eqv a b then ltBs r s else ltB a b
end
def notNon : D → Bool
  | .non => false
  | _ => true
def ltOk (a b : D) : Bool := plain a && plain b && alikeD a b && notNon a
def ltD (a b : D) : Option Bool := if ltOk a b then some (ltB a b) else none
def boolO (b : Bool) : O := .fz (.bl b)
def intO (i : Int) : O := .fz (.int i)
def idx (n : Nat) (i : Int) : Option Nat :=
  if 0 ≤ i then (if i.toNat < n then some i.toNat else none) else (if (-i).toNat ≤ n then some (n - (-i).toNat) else none)
/-- the place of a key -/
def keyAt {α : Type} : List (D × α) → D → Option Nat
  | [], _ => none
  | (k, _) :: r, d => if eqv k d then some 0 else (keyAt r d).map (· + 1)
def getK {α : Type} : List (D × α) → D → Option α
  | [], _ => none
  | (k, a) :: r, d => if eqv k d then some a else getK r d
def putK {α : Type} : List (D × α) → D → α → List (D × α)
  | [], d, a => [(d, a)]
  | (k, b) :: r, d, a => if eqv k d then (k, a) :: r else (k, b) :: putK r d a
def getF {α : Type} : List (String × α) → String → Option α
  | [], _ => none
  | (k, a) :: r, d => if d = k then some a else getF r d
def putF {α : Type} : List (String × α) → String → α → List (String × α)
  | [], d, a => [(d, a)]
  | (k, b) :: r, d, a => if k = d then (k, a) :: r else (k, b) :: putF r d a
/-- d[k] -/
def itemD : D → D → Option D
  | .lst ds, .int i => (idx ds.length i).bind fun k => ds[k]?
  | .tup ds, .int i => (idx ds.length i).bind fun k => ds[k]?
  | .str s, .int i => if s.length ≤ line then (idx s.length i).bind fun k => s[k]?.map fun c => .str [c] else none
  | .scr ns, .int i => (idx ns.length i).bind fun k => (ns[k]?).map .int
  | _, _ => none
/-- the same within an owned tree -/
def itemO : O → D → Option O
  | .fz d, k => (itemD d k).map .fz
  | .lst os, .int i => (idx os.length i).bind fun k => os[k]?
  | .tup os, .int i => (idx os.length i).bind fun k => os[k]?
  | _, _ => none
def fldO : O → String → Option O
  | .fz (.ins _ fs), f => (getF fs f).map .fz
  | .ins _ fs, f => getF fs f
  | _, _ => none
def lenD : D → Option Nat
  | .lst ds => some ds.length
  | .tup ds => some ds.length
  | .str s => if s.length ≤ line then some s.length else none
  | .scr ns => some ns.length
  | _ => none
def truD : D → Option Bool
  | .non => some false
  | .bl b => some b
  | .int i => some (i != 0)
  | .str s => if s.length ≤ line then some (s.length != 0) else none
  | .lst ds => some (!ds.isEmpty)
  | .tup ds => some (!ds.isEmpty)
  | _ => none
def prefixB : List Nat → List Nat → Bool
  | [], _ => true
  | _ :: _, [] => false
  | a :: r, b :: s => a == b && prefixB r s
def hasSub (x : List Nat) : List Nat → Bool
  | [] => x.isEmpty
  | c :: r => prefixB x (c :: r) || hasSub x r
/-- x in d -/
def inD : D → D → Option Bool
  | .str x, .str s => some (hasSub x s)
  | x, .lst ds => if eqsOk x ds then some (ds.any fun d => eqv d x) else none
  | x, .tup ds => if flatD x && ds.all flatD then some (ds.any fun d => eqv d x) else none
  | _, _ => none
abbrev Op2 := D → D → Option O
abbrev Op1 := D → Option O
def opAdd : Op2
  | .int a, .int b => some (intO (a + b))
  | .str a, .str b => if a.length + b.length ≤ line then some (.fz (.str (a ++ b))) else none
  | .lst a, .lst b => if a.length + b.length ≤ line then some (.lst ((a ++ b).map .fz)) else none
  | .tup a, .tup b => if a.length + b.length ≤ line then some (.fz (.tup (a ++ b))) else none
  | _, _ => none
def opSub : Op2
  | .int a, .int b => some (intO (a - b))
  | _, _ => none
def smallI (i : Int) : Bool := decide (i.natAbs < 18446744073709551616)
def rep {α : Type} (l : List α) : Nat → List α
  | 0 => []
  | n + 1 => l ++ rep l n
def opMul : Op2
  | .int a, .int b => if smallI a || smallI b then some (intO (a * b)) else none
  | .str a, .int n => if a.length * n.toNat ≤ line ∧ smallI n then some (.fz (.str (rep a n.toNat))) else none
  | .lst a, .int n => if a.length * n.toNat ≤ line ∧ smallI n then some (.lst ((rep a n.toNat).map .fz)) else none
  | .tup a, .int n => if a.length * n.toNat ≤ line ∧ smallI n then some (.fz (.tup (rep a n.toNat))) else none
  | _, _ => none
/-- of whole numbers alone -/
def opMulI : Op2
  | .int a, .int b => if smallI a || smallI b then some (intO (a * b)) else none
  | _, _ => none
def opMod : Op2
  | .int a, .int b => if 0 < b then some (intO (a % b)) else none
  | _, _ => none
def opFDiv : Op2
  | .int a, .int b => if 0 < b ∧ b < 1073741824 then some (intO (a / b)) else none
  | _, _ => none
def opPow : Op2
  | .int a, .int b => if 0 ≤ b ∧ b ≤ 1000000 ∧ smallI a then some (intO (a ^ b.toNat)) else none
  | _, _ => none
def opEq : Op2 := fun a b => if eqOk a b then some (boolO (eqv a b)) else none
def opNe : Op2 := fun a b => if eqOk a b then some (boolO (!eqv a b)) else none
def opLt : Op2
  | .int a, .int b => some (boolO (decide (a < b)))
  | a, b => (ltD a b).map boolO
def opGt : Op2
  | .int a, .int b => some (boolO (decide (b < a)))
  | _, _ => none
def opLe : Op2
  | .int a, .int b => some (boolO (decide (a ≤ b)))
  | _, _ => none
def opGe : Op2
  | .int a, .int b => some (boolO (decide (b ≤ a)))
  | _, _ => none
def opIn : Op2 := fun a b => (inD a b).map boolO
def opNotIn : Op2 := fun a b => (inD a b).map fun x => boolO (!x)
/-- x is None, x is True, x is False -/
def isD : D → D → Option Bool
  | .non, .non => some true
  | _, .non => some false
  | .bl a, .bl b => some (a == b)
  | _, _ => none
def opIs : Op2 := fun a b => (isD a b).map boolO
def opIsNot : Op2 := fun a b => (isD a b).map fun x => boolO (!x)
def opItem : Op2 := fun a b => (itemD a b).map .fz
/-- xs.index(x), s.index(x) for one sign -/
def findD (ds : List D) (x : D) : Option Nat :=
  match ds with
  | [] => none
  | d :: r => if eqv d x then some 0 else (findD r x).map (· + 1)
def findN (s : List Nat) (c : Nat) : Option Nat :=
  match s with
  | [] => none
  | d :: r => if d = c then some 0 else (findN r c).map (· + 1)
def opIndex : Op2
  | .lst ds, x => if eqsOk x ds then (findD ds x).map fun (k : Nat) => intO (k : Int) else none
  | .str s, .str [c] => (findN s c).map fun (k : Nat) => intO (k : Int)
  | _, _ => none
def opCount : Op2
  | .str s, .str [c] => some (intO (s.countP fun d => d == c))
  | _, _ => none
def strsOf : List D → Option (List (List Nat))
  | [] => some []
  | .str s :: r => (strsOf r).map (s :: ·)
  | _ => none
def joinL (sep : List Nat) : List (List Nat) → List Nat
  | [] => []
  | [x] => x
  | x :: r => x ++ sep ++ joinL sep r
def sizeL (sep : List Nat) : List (List Nat) → Nat
  | [] => 0
  | x :: r => x.length + sep.length + sizeL sep r
def itemsD : D → Option (List D)
  | .lst ds => some ds
  | .tup ds => some ds
  | .str s => some (s.map fun c => .str [c])
  | _ => none
def opJoin : Op2
  | .str sep, d => match d with
    | .lst ds => (strsOf ds).bind fun l => if sizeL sep l ≤ line then some (.fz (.str (joinL sep l))) else none
    | _ => none
  | _, _ => none
def splitN (c : Nat) : List Nat → List Nat → List (List Nat)
  | acc, [] => [acc.reverse]
  | acc, d :: r => if d = c then acc.reverse :: splitN c [] r else splitN c (d :: acc) r
def opSplit : Op2
  | .str s, .str [c] => if s.length + 2 ≤ line then some (.lst ((splitN c [] s).map fun x => .fz (.str x))) else none
  | _, _ => none
def clampI (n : Nat) (i : Int) : Nat := if 0 ≤ i then min i.toNat n else n - (-i).toNat
def sliceL {α : Type} (l : List α) (lo hi : Option Int) : List α :=
  let a := match lo with | none => 0 | some i => clampI l.length i
  let b := match hi with | none => l.length | some i => clampI l.length i
  (l.take b).drop a
def sliceD (d : D) (lo hi : Option Int) : Option O :=
  match d with
  | .lst ds => some (.lst ((sliceL ds lo hi).map .fz))
  | .tup ds => some (.fz (.tup (sliceL ds lo hi)))
  | .str s => if s.length ≤ line then some (.fz (.str (sliceL s lo hi))) else none
  | _ => none
def opRev : Op1
  | .lst ds => some (.lst (ds.reverse.map .fz))
  | .str s => if s.length ≤ line then some (.fz (.str s.reverse)) else none
  | _ => none
/-- xs[:0:-1] -/
def opRevTail : Op1
  | .lst ds => some (.lst (ds.tail.reverse.map .fz))
  | _ => none
def opLen : Op1 := fun d => (lenD d).map fun (n : Nat) => intO (n : Int)
def opNeg : Op1
  | .int i => some (intO (-i))
  | _ => none
def opAbs : Op1
  | .int i => some (intO (if i < 0 then -i else i))
  | _ => none
def opInt : Op1
  | .int i => some (intO i)
  | .bl b => some (intO (if b then 1 else 0))
  | _ => none
def opNot : Op1 := fun d => (truD d).map fun b => boolO (!b)
def opTuple : Op1
  | .lst ds => some (.fz (.tup ds))
  | .tup ds => some (.fz (.tup ds))
  | _ => none
def opList : Op1 := fun d => (itemsD d).map fun ds => .lst (ds.map .fz)
def intsOf : List D → Option (List Int)
  | [] => some []
  | .int i :: r => (intsOf r).map (i :: ·)
  | _ => none
def boolsOf : List D → Option (List Bool)
  | [] => some []
  | .bl i :: r => (boolsOf r).map (i :: ·)
  | _ => none
def sumI : List Int → Int
  | [] => 0
  | i :: r => i + sumI r
def opSum : Op1
  | .lst ds => (intsOf ds).map fun l => intO (sumI l)
  | _ => none
def opAll : Op1
  | .lst ds => (boolsOf ds).map fun l => boolO (l.all id)
  | _ => none
def opAny : Op1
  | .lst ds => (boolsOf ds).map fun l => boolO (l.any id)
  | _ => none
/-- the greatest and least, the first of equal ones -/
def maxD : D → List D → Option D
  | m, [] => some m
  | m, d :: r => (ltD m d).bind fun b => maxD (if b then d else m) r
def minD : D → List D → Option D
  | m, [] => some m
  | m, d :: r => (ltD d m).bind fun b => minD (if b then d else m) r
def opMax : Op1 := fun d => (itemsD d).bind fun ds => if plains ds then match ds with | [] => none | m :: r => (maxD m r).map .fz else none
def opMin : Op1 := fun d => (itemsD d).bind fun ds => if plains ds then match ds with | [] => none | m :: r => (minD m r).map .fz else none
def opMax2 : Op2
  | .int a, .int b => some (intO (if b > a then b else a))
  | _, _ => none
/-- where x goes into a sorted list: behind all that are not greater -/
def insD (x : D) : List D → Option (List D)
  | [] => some [x]
  | d :: r => (ltD x d).bind fun b => if b then some (x :: d :: r) else (insD x r).map (d :: ·)
def sortD : List D → Option (List D)
  | [] => some []
  | d :: r => (sortD r).bind fun l => insF d l
where
  /-- ahead of all that are not less -/
  insF (x : D) : List D → Option (List D)
  | [] => some [x]
  | d :: r => (ltD d x).bind fun b => if b then (insF x r).map (d :: ·) else some (x :: d :: r)
def opSorted : Op1 := fun d => (itemsD d).bind fun ds => if plains ds ∧ ds.length ≤ line then (sortD ds).map fun l => .lst (l.map .fz) else none
def pairOf : D → Option (D × D)
  | .tup [a, b] => some (a, b)
  | _ => none
def putAll : List (D × D) → List (D × D) → List (D × D)
  | kvs, [] => kvs
  | kvs, (k, v) :: r => putAll (putK kvs k v) r
def pairsOf : List D → Option (List (D × D))
  | [] => some []
  | d :: r => (pairOf d).bind fun p => (pairsOf r).map (p :: ·)
def opDict : Op1
  | .lst ds => (pairsOf ds).bind fun ps => if ps.all (fun p => keyD p.1) then some (.dic ((putAll [] ps).map fun p => (p.1, .fz p.2))) else none
  | _ => none
def isInst (c : String) : D → Option Bool
  | .non => some false
  | .bl _ => some (c == "bool" || c == "int")
  | .int _ => some (c == "int")
  | .str _ => some (c == "str")
  | .lst _ => some (c == "list")
  | .tup _ => some (c == "tuple")
  | _ => none
def opIsInst (c : String) : Op1 := fun d => (isInst c d).map boolO

/-! ### what is read, nothing changed -/
def pC (d : D) : Px := fun _ => some (.fz d)
def pV (i : Nat) : Px := fun ρ => match ρ[i]? with | some (some o) => some o | _ => none
def pIx (a b : Px) : Px := fun ρ => (a ρ).bind fun x => (b ρ).bind fun k => itemO x k.fr
def pFld (a : Px) (f : String) : Px := fun ρ => (a ρ).bind fun x => fldO x f
def pLen (a : Px) : Px := fun ρ => (a ρ).bind fun x => opLen x.fr
def pOp (f : Op2) (a b : Px) : Px := fun ρ => (a ρ).bind fun x => (b ρ).bind fun y => f x.fr y.fr
def pFz : List Px → Env → Option (List D)
  | [], _ => some []
  | p :: r, ρ => match p ρ with
    | some (.fz d) => (pFz r ρ).map (d :: ·)
    | _ => none
def pTup (ps : List Px) : Px := fun ρ => (pFz ps ρ).map fun ds => .fz (.tup ds)

/-! ### expressions -/
def eC (d : D) : Ex := fun ρ => .ok (.fz d) ρ
/-- what is read, frozen already -/
def eP (p : Px) : Ex := fun ρ => match p ρ with | some (.fz d) => .ok (.fz d) ρ | _ => .st
/-- a name that may own what it holds: it is frozen in its place -/
def eFrz (i : Nat) : Ex := fun ρ => match ρ[i]? with | some (some o) => .ok (.fz o.fr) (ρ.set i (some (.fz o.fr))) | _ => .st
/-- what is read of a tree that a name may own: it is frozen in its place -/
def eRdAt (l : Env → Option (Nat × List Nat)) (mod : (Nat × List Nat) → (O → Option O) → Env → Option Env) (p : Px) : Ex := fun ρ => match p ρ with
  | some (.fz d) => .ok (.fz d) ρ
  | some o => match (l ρ).bind fun a => mod a (fun s => some (.fz s.fr)) ρ with | some ρ' => .ok (.fz o.fr) ρ' | none => .st
  | none => .st
/-- .. it hands it on -/
def eMv (i : Nat) : Ex := fun ρ => match ρ[i]? with | some (some o) => .ok o (ρ.set i none) | _ => .st
def e1 (f : Op1) (a : Ex) : Ex := fun ρ => (a ρ).bind fun x ρ => ofOpt (f x.fr) ρ
def e2 (f : Op2) (a b : Ex) : Ex := fun ρ => (a ρ).bind fun x ρ => (b ρ).bind fun y ρ => ofOpt (f x.fr y.fr) ρ
/-- a method: the receiver's kind is asked first -/
def eM (chk : D → Bool) (f : Op2) (a b : Ex) : Ex := fun ρ => (a ρ).bind fun x ρ => if chk x.fr then (b ρ).bind fun y ρ => ofOpt (f x.fr y.fr) ρ else .st
def isS : D → Bool
  | .str _ => true
  | _ => false
def isL : D → Bool
  | .lst _ => true
  | _ => false
def isSL (d : D) : Bool := isS d || isL d
/-- the second operand is looked at where it stands -/
def e2P (f : Op2) (a : Ex) (p : Px) : Ex := fun ρ => (a ρ).bind fun x ρ => match p ρ with | some y => ofOpt (f x.fr y.fr) ρ | none => .st
def e1P (f : Op1) (p : Px) : Ex := fun ρ => match p ρ with | some x => ofOpt (f x.fr) ρ | none => .st
def isFz : O → Option D
  | .fz d => some d
  | _ => none
def allFz : List O → Option (List D)
  | [] => some []
  | o :: r => (isFz o).bind fun d => (allFz r).map (d :: ·)
/-- the first operand is a name that is only looked at -/
def eV2 (f : Op2) (i : Nat) (a : Ex) : Ex := fun ρ => (a ρ).bind fun x ρ => match pV i ρ with | some y => ofOpt (f y.fr x.fr) ρ | none => .st
/-- list(d) of a dict that a name may own: its keys -/
def keysO : O → Option O
  | .dic kos => some (.lst (kos.map fun p => .fz p.1))
  | .fz d => (itemsD d).map fun ds => .lst (ds.map .fz)
  | .lst os => match allFz os with | some ds => some (.lst (ds.map .fz)) | none => none
  | _ => none
def eListP (p : Px) : Ex := fun ρ => match p ρ with | some x => ofOpt (keysO x) ρ | none => .st
def eFld (a : Ex) (f : String) : Ex := fun ρ => (a ρ).bind fun x ρ => ofOpt (fldO (.fz x.fr) f) ρ
/-- freeze a value that was just made -/
def eFz (a : Ex) : Ex := fun ρ => (a ρ).bind fun x ρ => .ok (.fz x.fr) ρ
def eOpt : Option Ex → Env → R (Option Int)
  | none, ρ => .ok none ρ
  | some e, ρ => (e ρ).bind fun x ρ => match x with | .fz (.int i) => .ok (some i) ρ | _ => .st
def eSl (a : Ex) (lo hi : Option Ex) : Ex := fun ρ => (a ρ).bind fun x ρ => (eOpt lo ρ).bind fun i ρ => (eOpt hi ρ).bind fun j ρ => ofOpt (sliceD x.fr i j) ρ
def eAll : List Ex → Env → R (List O)
  | [], ρ => .ok [] ρ
  | e :: r, ρ => (e ρ).bind fun x ρ => (eAll r ρ).bind fun xs ρ => .ok (x :: xs) ρ
def eLst (es : List Ex) : Ex := fun ρ => (eAll es ρ).bind fun xs ρ => .ok (.lst xs) ρ
/-- a tuple: frozen where its parts are -/
def tupO (xs : List O) : O := match allFz xs with
  | some ds => .fz (.tup ds)
  | none => .tup xs
def eTup (es : List Ex) : Ex := fun ρ => (eAll es ρ).bind fun xs ρ => .ok (tupO xs) ρ
def eDic : List (Ex × Ex) → List (D × O) → Ex
  | [], acc, ρ => .ok (.dic acc) ρ
  | (k, v) :: r, acc, ρ => (k ρ).bind fun k ρ => (v ρ).bind fun v ρ => if keyD k.fr then eDic r (putK acc k.fr v) ρ else .st
/-- a value as a test -/
def tE (a : Ex) : Tx := fun ρ => (a ρ).bind fun x ρ => ofOpt (truD x.fr) ρ
def tP (p : Px) : Tx := fun ρ => match p ρ with | some x => ofOpt (truD x.fr) ρ | none => .st
def tAnd (a b : Tx) : Tx := fun ρ => (a ρ).bind fun x ρ => if x then b ρ else .ok false ρ
def tOr (a b : Tx) : Tx := fun ρ => (a ρ).bind fun x ρ => if x then .ok true ρ else b ρ
def tNot (a : Tx) : Tx := fun ρ => (a ρ).bind fun x ρ => .ok (!x) ρ
/-- and, or of bools as values -/
def eAnd (a b : Ex) : Ex := fun ρ => (a ρ).bind fun x ρ => match x with | .fz (.bl true) => b ρ | .fz (.bl false) => .ok (boolO false) ρ | _ => .st
def eOr (a b : Ex) : Ex := fun ρ => (a ρ).bind fun x ρ => match x with | .fz (.bl false) => b ρ | .fz (.bl true) => .ok (boolO true) ρ | _ => .st
def eNot (a : Ex) : Ex := fun ρ => (a ρ).bind fun x ρ => match x with | .fz (.bl b) => .ok (boolO (!b)) ρ | _ => .st
def eIf (t : Tx) (a b : Ex) : Ex := fun ρ => (t ρ).bind fun x ρ => if x then a ρ else b ρ
/-- a ⋈ b ⋈ c: the middle once -/
def eChain (f g : Op2) (a b c : Ex) : Ex := fun ρ => (a ρ).bind fun x ρ => (b ρ).bind fun y ρ => (ofOpt (f x.fr y.fr) ρ).bind fun z ρ => match z with
  | .fz (.bl true) => (c ρ).bind fun w ρ => ofOpt (g y.fr w.fr) ρ
  | .fz (.bl false) => .ok (boolO false) ρ
  | _ => .st

/-! ### targets -/
inductive Tgt where
  | nm (i : Nat) | tp (ts : List Tgt)
mutual
def asgn : Tgt → O → Env → Option Env
  | .nm i, o, ρ => if i < ρ.length then some (ρ.set i (some o)) else none
  | .tp ts, .fz (.tup ds), ρ => if ts.length = ds.length then asgns ts (ds.map .fz) ρ else none
  | .tp ts, .tup os, ρ => if ts.length = os.length then asgns ts os ρ else none
  | _, _, _ => none
def asgns : List Tgt → List O → Env → Option Env
  | [], _, ρ => some ρ
  | t :: r, o :: os, ρ => (asgn t o ρ).bind (asgns r os)
  | _, _, _ => none
end

/-! ### what is walked -/
def iE (e : Ex) : Itx := fun ρ => (e ρ).bind fun x ρ => ofOpt (itemsD x.fr) ρ
def rangeL (lo : Int) (step : Int) : Nat → List D
  | 0 => []
  | n + 1 => .int lo :: rangeL (lo + step) step n
def small62 (i : Int) : Bool := decide (i.natAbs < 4611686018427387904)
def iRange (a b : Ex) : Itx := fun ρ => (a ρ).bind fun x ρ => (b ρ).bind fun y ρ => match x, y with
  | .fz (.int i), .fz (.int j) => if small62 i && small62 j then .ok (rangeL i 1 (j - i).toNat) ρ else .st
  | _, _ => .st
def iRange1 (b : Ex) : Itx := fun ρ => (b ρ).bind fun y ρ => match y with
  | .fz (.int j) => if small62 j then .ok (rangeL 0 1 j.toNat) ρ else .st
  | _ => .st
/-- downwards, by ones -/
def iDown (a b : Ex) : Itx := fun ρ => (a ρ).bind fun x ρ => (b ρ).bind fun y ρ => match x, y with
  | .fz (.int i), .fz (.int j) => if small62 i && small62 j then .ok (rangeL i (-1) (i - j).toNat) ρ else .st
  | _, _ => .st
def enumL : Nat → List D → List D
  | _, [] => []
  | n, d :: r => .tup [.int n, d] :: enumL (n + 1) r
def iEnum (e : Ex) : Itx := fun ρ => (e ρ).bind fun x ρ => match x.fr with
  | .lst ds => .ok (enumL 0 ds) ρ
  | .str s => .ok (enumL 0 (s.map fun c => .str [c])) ρ
  | _ => .st
/-- enumerate(zip(..)) -/
def iEnumI (it : Itx) : Itx := fun ρ => (it ρ).bind fun xs ρ => .ok (enumL 0 xs) ρ
def zipL : List D → List D → List D
  | a :: r, b :: s => .tup [a, b] :: zipL r s
  | _, _ => []
def iZip (a b : Ex) : Itx := fun ρ => (a ρ).bind fun x ρ => (b ρ).bind fun y ρ => ofOpt ((itemsD x.fr).bind fun xs => (itemsD y.fr).map fun ys => zipL xs ys) ρ
def iItems (e : Ex) : Itx := fun ρ => (e ρ).bind fun x ρ => match x.fr with
  | .dic kvs => .ok (kvs.map fun p => .tup [p.1, p.2]) ρ
  | _ => .st
def hide (own : List Nat) (ρ : Env) : Env := own.foldl (fun ρ i => ρ.set i none) ρ
/-- a generator of a comprehension: target, what is walked, tests -/
def compG (own : List Nat) (ts : Tgt) (conds : Tx) (elt : Env → List O → R (List O)) : List D → Env → List O → R (List O)
  | [], ρ, acc => .ok acc ρ
  | x :: r, ρ, acc => match asgn ts (.fz x) (hide own ρ) with
    | none => .st
    | some ρ => (conds ρ).ne.bind fun b ρ => if b then (elt ρ acc).ne.bind fun acc ρ => compG own ts conds elt r ρ acc else compG own ts conds elt r ρ acc
def tT : Tx := fun ρ => .ok true ρ
def unhide (own : List Nat) (ρ₀ ρ : Env) : Env := own.foldl (fun ρ i => ρ.set i (match ρ₀[i]? with | some o => o | none => none)) ρ
/-- the slots of a comprehension's own names hold nothing that is owned -/
def ownFree (own : List Nat) (ρ : Env) : Bool := own.all fun i => match ρ[i]? with
  | some none => true
  | some (some (.fz _)) => true
  | _ => false
def push (elt : Ex) : Env → List O → R (List O) := fun ρ acc => (elt ρ).bind fun x ρ => if acc.length < line then .ok (acc ++ [x]) ρ else .st
def eComp (own : List Nat) (t : Tgt) (it : Itx) (conds : Tx) (elt : Ex) : Ex := fun ρ => (it ρ).bind fun xs ρ₀ => if !ownFree own ρ₀ then .st else
  (compG own t conds (push elt) xs ρ₀ []).bind fun acc ρ => .ok (.lst acc) (unhide own ρ₀ ρ)
def eComp2 (own : List Nat) (t : Tgt) (it : Itx) (conds : Tx) (own' : List Nat) (t' : Tgt) (it' : Itx) (conds' : Tx) (elt : Ex) : Ex := fun ρ => (it ρ).bind fun xs ρ₀ => if !ownFree own ρ₀ then .st else
  (compG own t conds (fun ρ acc => (it' ρ).ne.bind fun ys ρ => compG own' t' conds' (push elt) ys ρ acc) xs ρ₀ []).bind fun acc ρ => .ok (.lst acc) (unhide own ρ₀ ρ)
def dcompG (own : List Nat) (t : Tgt) (conds : Tx) (key val : Ex) : List D → Env → List (D × O) → R (List (D × O))
  | [], ρ, acc => .ok acc ρ
  | x :: r, ρ, acc => match asgn t (.fz x) (hide own ρ) with
    | none => .st
    | some ρ => (conds ρ).ne.bind fun b ρ => if b then (key ρ).ne.bind fun k ρ => (val ρ).ne.bind fun v ρ => if keyD k.fr ∧ acc.length < line then dcompG own t conds key val r ρ (putK acc k.fr v) else .st
      else dcompG own t conds key val r ρ acc
def eDComp (own : List Nat) (t : Tgt) (it : Itx) (conds : Tx) (key val : Ex) : Ex := fun ρ => (it ρ).bind fun xs ρ₀ => if !ownFree own ρ₀ then .st else
  (dcompG own t conds key val xs ρ₀ []).bind fun acc ρ => .ok (.dic acc) (unhide own ρ₀ ρ)

/-- list(range(..)), list(zip(..)) -/
def eItL (it : Itx) : Ex := fun ρ => (it ρ).bind fun xs ρ => .ok (.lst (xs.map .fz)) ρ
def dedupD : List D → List D
  | [] => []
  | d :: r => if (dedupD r).any (fun e => eqv d e) then dedupD r else d :: dedupD r
/-- len({a, b, ..}) -/
def eSetLen (es : List Ex) : Ex := fun ρ => (eAll es ρ).bind fun xs ρ => if keyDs (frs xs) then .ok (intO (dedupD (frs xs)).length) ρ else .st

/-! ### calls -/
/-- an argument: borrowed (a name's own, handed back), or a value -/
inductive Ar where
  | io (i : Nat) | v (e : Ex) | mv (e : Ex)
def args : List Ar → Env → R (List (Option O))
  | [], ρ => .ok [] ρ
  | .io i :: r, ρ => match ρ[i]? with
    | some (some _) => (args r ρ).bind fun xs ρ => .ok (none :: xs) ρ
    | _ => .st
  | .v e :: r, ρ => (e ρ).bind fun x ρ => (args r ρ).bind fun xs ρ => .ok (some (.fz x.fr) :: xs) ρ
  | .mv e :: r, ρ => (e ρ).bind fun x ρ => (args r ρ).bind fun xs ρ => .ok (some x :: xs) ρ
/-- the borrowed ones are taken as they stand when all arguments are known -/
def fillA : List Ar → List (Option O) → Env → Option (List O)
  | [], _, _ => some []
  | .io i :: r, _ :: xs, ρ => match ρ[i]? with
    | some (some o) => (fillA r xs ρ).map (o :: ·)
    | _ => none
  | _ :: r, some x :: xs, ρ => (fillA r xs ρ).map (x :: ·)
  | _, _, _ => none
def backA : List Ar → Env → Env → Option Env
  | [], _, ρ => some ρ
  | .io i :: r, outs, ρ => match outs with
    | some o :: outs => if i < ρ.length then backA r outs (ρ.set i (some o)) else none
    | _ => none
  | _ :: r, outs, ρ => backA r outs ρ
def ios : List Ar → List Nat
  | [] => []
  | .io i :: r => i :: ios r
  | _ :: r => ios r
def eCall (f : FSem) (as : List Ar) : Ex := fun ρ => (args as ρ).bind fun xs ρ => match fillA as xs ρ with
  | none => .st
  | some os => match f os with
    | .ok o outs => match backA as outs (hide (ios as) ρ) with
      | some ρ' => .ok o ρ'
      | none => .st
    | .exc x ds outs => match backA as outs (hide (ios as) ρ) with
      | some ρ' => .exc x ds ρ'
      | none => .st
    | .st => .st
/-- a def within a def: what it reads of the outer one is handed on behind its own arguments -/
def clo (f : FSem) (is : List Nat) : Env → Option FSem := fun ρ => (is.mapM fun i => (pV i ρ).map O.fr).map fun ds => fun os => f (os ++ ds.map .fz)
def eCallH (g : Env → Option FSem) (as : List Ar) : Ex := fun ρ => match g ρ with | some f => eCall f as ρ | none => .st
mutual
/-- all of it is new: nothing compound is frozen -/
def ownO : O → Bool
  | .fz (.lst _) => false
  | .fz (.tup _) => false
  | .fz (.dic _) => false
  | .fz (.ins _ _) => false
  | .fz (.scr _) => false
  | .fz _ => true
  | .lst os => ownOs os
  | .tup os => ownOs os
  | .dic _ => false
  | .ins _ fs => ownFs fs
def ownOs : List O → Bool
  | [] => true
  | o :: r => ownO o && ownOs r
def ownFs : List (String × O) → Bool
  | [] => true
  | (_, o) :: r => ownO o && ownFs r
end
/-- a call whose arguments are looked at only: what comes back is all new -/
def eLend (f : FSem) (ps : List Px) : Ex := fun ρ => match ps.mapM (fun p => (p ρ).map O.fr) with
  | none => .st
  | some ds => match f (ds.map .fz) with
    | .ok o [] => if ownO o then .ok o ρ else .st
    | .exc x es [] => .exc x es ρ
    | _ => .st
/-- a new instance: __init__ has it as its first argument, borrowed -/
def semMake (c : String) (init : FSem) : FSem := fun os => match init (.ins c [] :: os) with
  | .ok (.fz .non) (some o :: outs) => .ok o outs
  | .exc x ds (_ :: outs) => .exc x ds outs
  | _ => .st

/-! ### places that are changed -/
def childAt : O → D → Option (Nat × O)
  | .lst os, .int i => (idx os.length i).bind fun k => (os[k]?).map fun o => (k, o)
  | .dic kos, k => (keyAt kos k).bind fun n => (kos[n]?).map fun p => (n, p.2)
  | _, _ => none
def fieldAt {α : Type} : List (String × α) → String → Option Nat
  | [], _ => none
  | (k, _) :: r, d => if d = k then some 0 else (fieldAt r d).map (· + 1)
/-- the subtree at a path of children -/
def subO : O → List Nat → Option O
  | o, [] => some o
  | .lst os, k :: π => (os[k]?).bind fun o => subO o π
  | .dic kos, k :: π => (kos[k]?).bind fun p => subO p.2 π
  | .ins _ fs, k :: π => (fs[k]?).bind fun p => subO p.2 π
  | _, _ => none
def setO : O → List Nat → O → Option O
  | _, [], n => some n
  | .lst os, k :: π, n => (os[k]?).bind fun o => (setO o π n).map fun o' => .lst (os.set k o')
  | .dic kos, k :: π, n => (kos[k]?).bind fun p => (setO p.2 π n).map fun o' => .dic (kos.set k (p.1, o'))
  | .ins c fs, k :: π, n => (fs[k]?).bind fun p => (setO p.2 π n).map fun o' => .ins c (fs.set k (p.1, o'))
  | _, _, _ => none
def lV (i : Nat) : Lx := fun _ => some (i, [])
def atL (ρ : Env) (l : Nat × List Nat) : Option O := match ρ[l.1]? with
  | some (some o) => subO o l.2
  | _ => none
def lIx (l : Lx) (p : Px) : Lx := fun ρ => (l ρ).bind fun a => (atL ρ a).bind fun o => (p ρ).bind fun k => (childAt o k.fr).map fun c => (a.1, a.2 ++ [c.1])
def lFld (l : Lx) (f : String) : Lx := fun ρ => (l ρ).bind fun a => (atL ρ a).bind fun o => match o with
  | .ins _ fs => (fieldAt fs f).map fun n => (a.1, a.2 ++ [n])
  | _ => none
/-- the tree at a place is changed -/
def modL (l : Nat × List Nat) (f : O → Option O) (ρ : Env) : Option Env := match ρ[l.1]? with
  | some (some o) => (subO o l.2).bind fun s => (f s).bind fun s' => (setO o l.2 s').map fun o' => ρ.set l.1 (some o')
  | _ => none
def eRd (l : Lx) (p : Px) : Ex := eRdAt l modL p
/-- l is read, then e (which does not see the tree that l is in, if l is inside it) -/
def atThen (l : Lx) (e : Ex) (f : O → O → Option O) : Env → R Unit := fun ρ => match l ρ with
  | none => .st
  | some (r, []) => (e ρ).bind fun x ρ => match modL (r, []) (fun s => f s x) ρ with | some ρ' => .ok () ρ' | none => .st
  | some (r, k :: π) => match ρ[r]? with
    | some (some o) => match e (ρ.set r none) with
      | .ok x ρ => match ρ[r]? with
        | some none => match modL (r, k :: π) (fun s => f s x) (ρ.set r (some o)) with | some ρ' => .ok () ρ' | none => .st
        | _ => .st
      | .exc x ds ρ => match ρ[r]? with
        | some none => .exc x ds (ρ.set r (some o))
        | _ => .st
      | .st => .st
    | _ => .st
def appO : O → O → Option O
  | .lst os, x => if os.length < line then some (.lst (os ++ [x])) else none
  | _, _ => none
def extO : O → O → Option O
  | .lst os, x => match x.fr with
    | .lst ds => if os.length + ds.length ≤ line then some (.lst (os ++ ds.map .fz)) else none
    | _ => none
  | _, _ => none
/-- o[k] = x -/
def setItemO (k : D) (x : O) : O → Option O
  | .lst os => match k with
    | .int i => (idx os.length i).map fun n => .lst (os.set n x)
    | _ => none
  | _ => none
/-- the fields that an instance of a class may have -/
def attrsOf : String → List String
  | "Machine" => ["reads", "writes", "left", "right", "table"]
  | "Automaton" => ["rows", "accepts"]
  | "Pattern" => ["alphabet", "text", "network"]
  | "Network" => ["marks", "follow", "ends"]
  | "Part" => ["nullable", "first", "last"]
  | "Scanner" => ["alphabet", "marks", "follow", "frames", "signs", "starred"]
  | "ContextRule" => ["before", "after", "front", "behind"]
  | "Side" => ["network", "whole"]
  | "Rules" => ["alphabet", "text", "told"]
  | "Book" => ["alphabet", "rows", "before"]
  | _ => []
def setFldO (f : String) (x : O) : O → Option O
  | .ins c fs => if fs.length < 1000 ∧ (attrsOf c).contains f then some (.ins c (putF fs f x)) else none
  | _ => none
/-- xs.pop(), xs.pop(i) -/
def popO (i : Option Int) : O → Option (O × O)
  | .lst os => match (match i with | none => idx os.length (-1) | some i => idx os.length i) with
    | some k => (os[k]?).map fun x => (x, .lst (os.eraseIdx k))
    | none => none
  | _ => none
def ePop (l : Lx) : Ex := fun ρ => match l ρ with
  | none => .st
  | some a => match (atL ρ a).bind (popO none) with
    | some (x, s) => match modL a (fun _ => some s) ρ with | some ρ' => .ok x ρ' | none => .st
    | none => .st
def ePopAt (l : Lx) (p : Px) : Ex := fun ρ => match l ρ, p ρ with
  | some a, some (.fz (.int i)) => match (atL ρ a).bind (popO (some i)) with
    | some (x, s) => match modL a (fun _ => some s) ρ with | some ρ' => .ok x ρ' | none => .st
    | none => .st
  | _, _ => .st
def insO (i : Int) (x : O) : O → Option O
  | .lst os => if os.length < line then some (.lst (os.take (clampI os.length i) ++ x :: os.drop (clampI os.length i))) else none
  | _ => none
/-- d.get(k, x) -/
def eGet (p : Px) (k d : Ex) : Ex := fun ρ => (k ρ).bind fun k ρ => (d ρ).bind fun d ρ => match p ρ with
  | some o => match o.fr with
    | .dic kvs => if keyD k.fr then .ok (.fz ((getK kvs k.fr).getD d.fr)) ρ else .st
    | _ => .st
  | none => .st

/-! ### statements -/
def sNx : Stx := fun ρ => .ok .nx ρ
def sSeq (s t : Stx) : Stx := fun ρ => (s ρ).bind fun f ρ => match f with | .nx => t ρ | f => .ok f ρ
def sBlk : List Stx → Stx
  | [] => sNx
  | [s] => s
  | s :: r => sSeq s (sBlk r)
def sSet (t : Tgt) (e : Ex) : Stx := fun ρ => (e ρ).bind fun x ρ => match asgn t x ρ with | some ρ => .ok .nx ρ | none => .st
def sEx (e : Ex) : Stx := fun ρ => (e ρ).bind fun _ ρ => .ok .nx ρ
def sRet (e : Ex) : Stx := fun ρ => (e ρ).bind fun x ρ => .ok (.ret x) ρ
def sRetN : Stx := fun ρ => .ok (.ret (.fz .non)) ρ
def sIf (t : Tx) (a b : Stx) : Stx := fun ρ => (t ρ).bind fun x ρ => if x then a ρ else b ρ
def sBrk : Stx := fun ρ => .ok .brk ρ
def unitS : R Unit → R Flow := fun r => r.bind fun _ ρ => .ok .nx ρ
def lstAt (l : Lx) (ρ : Env) : Bool := match (l ρ).bind (atL ρ) with
  | some (.lst _) => true
  | _ => false
def sApp (l : Lx) (e : Ex) : Stx := fun ρ => if lstAt l ρ then unitS (atThen l e appO ρ) else .st
def sExt (l : Lx) (e : Ex) : Stx := fun ρ => if lstAt l ρ then unitS (atThen l e extO ρ) else .st
/-- l[k] = e: e first, then the place, then k -/
def isAt (l : Lx) (ρ : Env) : Bool := ((l ρ).bind (atL ρ)).isSome
def sSetI (l : Lx) (k : Ex) (e : Ex) : Stx := fun ρ => (e ρ).bind fun x ρ => if isAt l ρ then unitS (atThen l k (fun s k => setItemO k.fr x s) ρ) else .st
def sSetF (l : Lx) (f : String) (e : Ex) : Stx := fun ρ => (e ρ).bind fun x ρ => match l ρ with
  | some a => match modL a (setFldO f x) ρ with | some ρ' => .ok .nx ρ' | none => .st
  | none => .st
def sIns (l : Lx) (i : Px) (e : Ex) : Stx := fun ρ => match i ρ with
  | some (.fz (.int i)) => unitS (atThen l e (fun s x => insO i x s) ρ)
  | _ => .st
/-- d.setdefault(k, []).append(x); d.setdefault(k, {})[j] = x -/
def sSdApp (r : Nat) (k x : Ex) : Stx := fun ρ => (k ρ).bind fun k ρ => (x ρ).bind fun x ρ => match ρ[r]? with
  | some (some (.dic kos)) => if keyD k.fr ∧ kos.length < line then match ((getK kos k.fr).getD (.lst [])) with
      | .lst os => if os.length < line then .ok .nx (ρ.set r (some (.dic (putK kos k.fr (.lst (os ++ [x])))))) else .st
      | _ => .st
    else .st
  | _ => .st
def sSdSet (r : Nat) (k : Ex) (j : Px) (x : Ex) : Stx := fun ρ => (x ρ).bind fun x ρ => (k ρ).bind fun k ρ => match j ρ with
  | some (.fz j) => match ρ[r]? with
    | some (some (.dic kos)) => if keyD k.fr ∧ keyD j ∧ kos.length < line then match ((getK kos k.fr).getD (.dic [])) with
      | .dic js => if js.length < line then .ok .nx (ρ.set r (some (.dic (putK kos k.fr (.dic (putK js j x)))))) else .st
      | _ => .st
      else .st
    | _ => .st
  | _ => .st
def forL (t : Tgt) (body : Stx) : List D → Env → R Flow
  | [], ρ => .ok .nx ρ
  | x :: r, ρ => match asgn t (.fz x) ρ with
    | none => .st
    | some ρ => (body ρ).bind fun f ρ => match f with
      | .nx => forL t body r ρ
      | .brk => .ok .nx ρ
      | .ret o => .ok (.ret o) ρ
def sFor (t : Tgt) (it : Itx) (body : Stx) : Stx := fun ρ => (it ρ).bind fun xs ρ => forL t body xs ρ
def whileL (c : Tx) (body : Stx) : Nat → Env → R Flow
  | 0, _ => .st
  | n + 1, ρ => (c ρ).bind fun b ρ => if b then (body ρ).bind fun f ρ => match f with
      | .nx => whileL c body n ρ
      | .brk => .ok .nx ρ
      | .ret o => .ok (.ret o) ρ
    else .ok .nx ρ
def sWhile (n : Nat) (c : Tx) (body : Stx) : Stx := fun ρ => whileL c body n ρ
def raiseL (x : String) (xs : List O) (ρ : Env) : R Flow := .exc x (xs.map O.fr) ρ
def sRaise (x : String) (es : List Ex) : Stx := fun ρ => (eAll es ρ).bind fun xs ρ => raiseL x xs ρ
/-- a clause: the classes that it takes, the name's place, the fields of the error's class, the suite -/
structure Clause where
  takes : List String
  at_ : Option Nat
  suite : Stx
def fieldsOf : String → List String
  | "PatternError" => ["place", "reason"]
  | "RuleError" => ["line", "place", "reason"]
  | _ => ["reason"]
def handle : List Clause → String → List D → Env → R Flow
  | [], x, ds, ρ => .exc x ds ρ
  | c :: r, x, ds, ρ => if c.takes.contains x then
      match c.at_ with
      | none => c.suite ρ
      | some i => (c.suite (ρ.set i (some (.fz (.ins x ((fieldsOf x).zip ds)))))).bind fun f ρ => .ok f (ρ.set i none)
    else handle r x ds ρ
def sTry (body : Stx) (cs : List Clause) : Stx := fun ρ => match body ρ with
  | .ok f ρ => .ok f ρ
  | .exc x ds ρ => handle cs x ds ρ
  | .st => .st
/-- isinstance of a caught error -/
def eExcIs (i : Nat) (cs : List String) : Ex := fun ρ => match ρ[i]? with
  | some (some (.fz (.ins x _))) => .ok (boolO (cs.contains x)) ρ
  | _ => .st

/-! ### a def -/
def outsOf : List Nat → Env → Option Env
  | [], _ => some []
  | i :: r, ρ => match ρ[i]? with
    | some (some o) => (outsOf r ρ).map (some o :: ·)
    | _ => none
def runDef (n np : Nat) (io : List Nat) (body : Stx) : FSem := fun os =>
  if os.length = np then
    match body (os.map some ++ List.replicate (n - np) none) with
    | .ok f ρ => match f with
      | .nx => match outsOf io ρ with | some outs => .ok (.fz .non) outs | none => .st
      | .ret o => match outsOf io ρ with | some outs => .ok o outs | none => .st
      | .brk => .st
    | .exc x ds ρ => match outsOf io ρ with | some outs => .exc x ds outs | none => .st
    | .st => .st
  else .st
end FA
/-! FAp: what is reached, and what holds there (no program in sight). -/
namespace FA
def Ok {α : Type} (r : R α) (P : α → Env → Prop) : Prop := match r with
  | .ok a ρ => P a ρ
  | _ => False
section
variable {α β : Type} {P Q : α → Env → Prop} {ρ : Env}
theorem ok_ok {a : α} : Ok (.ok a ρ) P = P a ρ := rfl
theorem ok_st : Ok (.st : R α) P = False := rfl
theorem ok_exc {x : String} {ds : List D} : Ok (.exc x ds ρ : R α) P = False := rfl
theorem ok_bind {r : R α} {k : α → Env → R β} {P : β → Env → Prop} : Ok (r.bind k) P = Ok r (fun a ρ => Ok (k a ρ) P) := by
  cases r <;> rfl
theorem ok_ne {r : R α} : Ok r.ne P = Ok r P := by cases r <;> rfl
theorem ok_opt {a : α} : Ok (ofOpt (some a) ρ) P = P a ρ := rfl
theorem ok_optIf {c : Prop} [Decidable c] {a : α} : Ok (ofOpt (if c then some a else none) ρ) P = (c ∧ P a ρ) := by
  by_cases h : c <;> simp [h, ofOpt, Ok]
theorem Ok.mono {r : R α} (h : Ok r P) (i : ∀ a ρ, P a ρ → Q a ρ) : Ok r Q := by
  cases r <;> first | exact i _ _ h | exact h
theorem ok_eq {r : R α} (h : Ok r P) : ∃ a ρ, r = .ok a ρ ∧ P a ρ := by
  cases r <;> first | exact ⟨_, _, rfl, h⟩ | exact False.elim h
theorem ok_ite {c : Prop} [Decidable c] {a b : R α} : Ok (if c then a else b) P = if c then Ok a P else Ok b P := by split <;> rfl
end
/-- a loop, by an invariant at each place -/
theorem ok_for {t : Tgt} {body : Stx} {P : Flow → Env → Prop} (I : Nat → Env → Prop) : ∀ {xs : List D} {ρ : Env} (n : Nat), I n ρ → (∀ i d ρ, xs[i]? = some d → I (n + i) ρ → ∃ ρ1, asgn t (.fz d) ρ = some ρ1 ∧ Ok (body ρ1) fun f ρ' => match f with | .nx => I (n + i + 1) ρ' | .brk => P .nx ρ' | .ret o => P (.ret o) ρ') → (∀ ρ, I (n + xs.length) ρ → P .nx ρ) → Ok (forL t body xs ρ) P
  | [], ρ, n, h0, _, hd => hd ρ h0
  | d :: r, ρ, n, h0, hs, hd => by
    obtain ⟨ρ1, e1, h1⟩ := hs 0 d ρ rfl h0
    unfold forL
    rw [e1]
    show Ok ((body ρ1).bind _) P
    rw [ok_bind]
    refine h1.mono fun f ρ' q => ?_
    cases f with
    | nx => exact ok_for I (n + 1) q (fun i d ρ hi hI => by
        have := hs (i + 1) d ρ (by simpa using hi) (by rw [show n + (i + 1) = n + 1 + i by omega]; exact hI)
        rw [show n + (i + 1) = n + 1 + i by omega] at this
        exact this) fun ρ hI => hd ρ (by rw [show n + (d :: r).length = n + 1 + r.length by simp; omega]; exact hI)
    | brk => exact q
    | ret o => exact q
/-- a comprehension, by an invariant of the place, the names, what is gathered -/
theorem ok_comp {own : List Nat} {t : Tgt} {conds : Tx} {ce : Ex} {P : List O → Env → Prop} (I : Nat → Env → List O → Prop) : ∀ {xs : List D} {ρ : Env} {acc : List O} (n : Nat), I n ρ acc →
    (∀ i d ρ acc, xs[i]? = some d → I (n + i) ρ acc → ∃ ρ1, asgn t (.fz d) (hide own ρ) = some ρ1 ∧ Ok (conds ρ1) fun b ρ2 => if b = true then acc.length < line ∧ Ok (ce ρ2) fun o ρ3 => I (n + i + 1) ρ3 (acc ++ [o]) else I (n + i + 1) ρ2 acc) →
    (∀ ρ acc, I (n + xs.length) ρ acc → P acc ρ) → Ok (compG own t conds (push ce) xs ρ acc) P
  | [], ρ, acc, n, h0, _, hd => hd ρ acc h0
  | d :: r, ρ, acc, n, h0, hs, hd => by
    obtain ⟨ρ1, e1, h1⟩ := hs 0 d ρ acc rfl h0
    unfold compG
    rw [e1]
    show Ok ((conds ρ1).ne.bind _) P
    rw [ok_bind, ok_ne]
    have rest : ∀ ρ' acc', I (n + 0 + 1) ρ' acc' → Ok (compG own t conds (push ce) r ρ' acc') P := fun ρ' acc' q => ok_comp I (n + 1) q (fun i d ρ acc hi hI => by
        have := hs (i + 1) d ρ acc (by simpa using hi) (by rw [show n + (i + 1) = n + 1 + i by omega]; exact hI)
        rw [show n + (i + 1) = n + 1 + i by omega] at this
        exact this) fun ρ acc hI => hd ρ acc (by rw [show n + (d :: r).length = n + 1 + r.length by simp; omega]; exact hI)
    refine h1.mono fun b ρ2 q => ?_
    cases b with
    | false => exact rest _ _ (by simpa using q)
    | true =>
      obtain ⟨hl, q⟩ := (show acc.length < line ∧ Ok (ce ρ2) fun o ρ3 => I (n + 0 + 1) ρ3 (acc ++ [o]) from by simpa using q)
      show Ok ((push ce ρ2 acc).ne.bind _) P
      rw [ok_bind, ok_ne]
      unfold push
      rw [ok_bind]
      refine q.mono fun o ρ3 q => ?_
      rw [if_pos hl]
      exact rest _ _ q
/-- a def, by what its body reaches -/
theorem ok_def {n np : Nat} {io : List Nat} {body : Stx} {os : List O} {P : O → Env → Prop} (hl : os.length = np) (h : Ok (body (os.map some ++ List.replicate (n - np) none)) fun f ρ => match f with
    | .nx => ∃ outs, outsOf io ρ = some outs ∧ P (.fz .non) outs
    | .ret o => ∃ outs, outsOf io ρ = some outs ∧ P o outs
    | .brk => False) : Ok (runDef n np io body os) P := by
  unfold runDef
  rw [if_pos hl]
  obtain ⟨f, ρ, e, q⟩ := ok_eq h
  rw [e]
  cases f with
  | nx => obtain ⟨outs, e, q⟩ := q; simp only [e]; exact q
  | ret o => obtain ⟨outs, e, q⟩ := q; simp only [e]; exact q
  | brk => exact q.elim

/-! ### the operations upon what kinds -/
theorem opAdd_ii (a b : Int) : opAdd (.int a) (.int b) = some (intO (a + b)) := rfl
theorem opAdd_ss (a b : List Nat) : opAdd (.str a) (.str b) = if a.length + b.length ≤ line then some (.fz (.str (a ++ b))) else none := rfl
theorem opAdd_ll (a b : List D) : opAdd (.lst a) (.lst b) = if a.length + b.length ≤ line then some (.lst ((a ++ b).map .fz)) else none := rfl
theorem opSub_ii (a b : Int) : opSub (.int a) (.int b) = some (intO (a - b)) := rfl
theorem opMul_ii (a b : Int) : opMulI (.int a) (.int b) = if smallI a || smallI b then some (intO (a * b)) else none := rfl
theorem opMul_r {b : Int} (h : smallI b = true) (a : Int) : opMulI (.int a) (.int b) = some (intO (a * b)) := by show (if smallI a || smallI b then some (intO (a * b)) else none) = _; rw [h, Bool.or_true]; rfl
theorem opMul_l {a : Int} (h : smallI a = true) (b : Int) : opMulI (.int a) (.int b) = some (intO (a * b)) := by show (if smallI a || smallI b then some (intO (a * b)) else none) = _; rw [h, Bool.true_or]; rfl
theorem sm5 : smallI 5 = true := by decide +kernel
theorem sm2 : smallI 2 = true := by decide +kernel
theorem sm69069 : smallI 69069 = true := by decide +kernel
theorem sm104729 : smallI 104729 = true := by decide +kernel
theorem opMod_ii (a b : Int) : opMod (.int a) (.int b) = if 0 < b then some (intO (a % b)) else none := rfl
theorem opFDiv_ii (a b : Int) : opFDiv (.int a) (.int b) = if 0 < b ∧ b < 1073741824 then some (intO (a / b)) else none := rfl
theorem opLt_ii (a b : Int) : opLt (.int a) (.int b) = some (boolO (decide (a < b))) := rfl
theorem opGt_ii (a b : Int) : opGt (.int a) (.int b) = some (boolO (decide (b < a))) := rfl
theorem opLe_ii (a b : Int) : opLe (.int a) (.int b) = some (boolO (decide (a ≤ b))) := rfl
theorem opGe_ii (a b : Int) : opGe (.int a) (.int b) = some (boolO (decide (b ≤ a))) := rfl
theorem opLen_l (ds : List D) : opLen (.lst ds) = some (intO ds.length) := rfl
theorem opLen_t (ds : List D) : opLen (.tup ds) = some (intO ds.length) := rfl
theorem opLen_c (ns : List Int) : opLen (.scr ns) = some (intO ns.length) := rfl
theorem opLen_s (s : List Nat) (h : s.length ≤ line) : opLen (.str s) = some (intO s.length) := by show (if s.length ≤ line then some s.length else none).map _ = _; rw [if_pos h]; rfl
theorem opInt_i (a : Int) : opInt (.int a) = some (intO a) := rfl
theorem opInt_b (a : Bool) : opInt (.bl a) = some (intO (if a then 1 else 0)) := rfl
theorem opAbs_i (i : Int) : opAbs (.int i) = some (intO (if i < 0 then -i else i)) := rfl
theorem itemD_l (ds : List D) (i : Int) : itemD (.lst ds) (.int i) = (idx ds.length i).bind fun k => ds[k]? := rfl
theorem itemD_c (ns : List Int) (i : Int) : itemD (.scr ns) (.int i) = (idx ns.length i).bind fun k => (ns[k]?).map .int := rfl
theorem itemD_s (s : List Nat) (i : Int) (h : s.length ≤ line) : itemD (.str s) (.int i) = (idx s.length i).bind fun k => s[k]?.map fun c => .str [c] := by show (if s.length ≤ line then (idx s.length i).bind fun k => s[k]?.map fun c => D.str [c] else none) = _; rw [if_pos h]
theorem itemO_l (os : List O) (i : Int) : itemO (.lst os) (.int i) = (idx os.length i).bind fun k => os[k]? := rfl
theorem itemO_f (d k : D) : itemO (.fz d) k = (itemD d k).map .fz := rfl
theorem setI_l (os : List O) (i : Int) (x : O) : setItemO (.int i) x (.lst os) = (idx os.length i).map fun n => .lst (os.set n x) := rfl
theorem appO_l (os : List O) (x : O) : appO (.lst os) x = if os.length < line then some (.lst (os ++ [x])) else none := rfl
theorem fr_f (d : D) : O.fr (.fz d) = d := rfl
theorem tru_b (b : Bool) : truD (.bl b) = some b := rfl
theorem idx_nat (n i : Nat) (h : i < n) : idx n (i : Int) = some i := by unfold idx; rw [if_pos (Int.natCast_nonneg i), if_pos (by simpa using h)]; simp
theorem idx_0 (n : Nat) : idx (n + 1) 0 = some 0 := idx_nat (n + 1) 0 (by omega)
theorem idx_1 (n : Nat) : idx (n + 2) 1 = some 1 := idx_nat (n + 2) 1 (by omega)
theorem bi_ok {α β : Type} (a : α) (ρ : Env) (f : α → Env → R β) : R.bind (.ok a ρ) f = f a ρ := rfl
theorem bi_st {α β : Type} (f : α → Env → R β) : R.bind .st f = .st := rfl
theorem oo_s {α : Type} (a : α) (ρ : Env) : ofOpt (some a) ρ = .ok a ρ := rfl

/-! ### comprehensions of one name -/
theorem set_same {α : Type} : ∀ {l : List α} {i : Nat} {x : α}, l[i]? = some x → l.set i x = l
  | [], _, _, e => by simp at e
  | a :: r, 0, x, e => by simp at e; simp [e]
  | a :: r, i + 1, x, e => by simp at e; simp [set_same e]
theorem comp_st {S : Type} {E : S → Env} {i : Nat} {ce : Ex} {Rp : S → O → S → Prop} (hl : ∀ s, i < (E s).length) : ∀ {xs : List D} {s : S} {x : Option O} {acc : List O}, acc.length + xs.length ≤ line →
    (∀ d s, d ∈ xs → ∃ o s', ce ((E s).set i (some (.fz d))) = .ok o ((E s').set i (some (.fz d))) ∧ Rp s o s') →
    ∃ os s' x', os.length = xs.length ∧ (∀ o ∈ os, ∃ a b, Rp a o b) ∧ compG [i] (.nm i) tT (push ce) xs ((E s).set i x) acc = .ok (acc ++ os) ((E s').set i x')
  | [], s, x, acc, _, _ => ⟨[], s, x, rfl, fun _ h => (by cases h), by unfold compG; simp⟩
  | d :: r, s, x, acc, hz, h => by
    obtain ⟨o, s1, e1, r1⟩ := h d s (List.mem_cons_self ..)
    obtain ⟨os, s2, x2, l2, h2, e2⟩ := comp_st hl (xs := r) (s := s1) (x := some (.fz d)) (acc := acc ++ [o]) (by simp at hz ⊢; omega) fun d s hd => h d s (List.mem_cons_of_mem _ hd)
    refine ⟨o :: os, s2, x2, by simp [l2], fun y hy => ?_, ?_⟩
    · rcases List.mem_cons.mp hy with rfl | hy
      · exact ⟨_, _, r1⟩
      · exact h2 y hy
    · unfold compG
      have ha : asgn (.nm i) (.fz d) (hide [i] ((E s).set i x)) = some ((E s).set i (some (.fz d))) := by
        simp [hide, asgn, hl s]
      rw [ha]
      simp only [tT, R.ne, R.bind, if_true, push, e1]
      rw [if_pos (by simp at hz; omega)]
      simp only [R.ne, R.bind]
      rw [e2]
      simp
theorem eComp_st {S : Type} {E : S → Env} {i : Nat} {ce : Ex} {it : Itx} {xs : List D} {s : S} {ρ : Env} (Rp : S → O → S → Prop) (hn : ∀ s, (E s)[i]? = some none) (hit : it ρ = .ok xs (E s)) (hx : xs.length ≤ line)
    (h : ∀ d s, d ∈ xs → ∃ o s', ce ((E s).set i (some (.fz d))) = .ok o ((E s').set i (some (.fz d))) ∧ Rp s o s') :
    ∃ os s', os.length = xs.length ∧ (∀ o ∈ os, ∃ a b, Rp a o b) ∧ eComp [i] (.nm i) it tT ce ρ = .ok (.lst os) (E s') := by
  have hl : ∀ s, i < (E s).length := fun s => by
    rcases Nat.lt_or_ge i (E s).length with z | z
    · exact z
    · have := hn s; rw [List.getElem?_eq_none_iff.mpr z] at this; cases this
  obtain ⟨os, s', x', l, h1, e⟩ := comp_st hl (xs := xs) (s := s) (x := none) (acc := []) (by simpa using hx) h
  refine ⟨os, s', l, h1, ?_⟩
  unfold eComp
  rw [hit]
  rw [set_same (hn s)] at e
  have hf : ownFree [i] (E s) = true := by simp [ownFree, hn s]
  simp only [R.bind, hf, Bool.not_true, Bool.false_eq_true, if_false, e, List.nil_append]
  congr 1
  simp only [unhide, List.foldl, hn s, List.set_set]
  exact set_same (hn s')
/-- nothing changes: the values one by one -/
theorem comp_map {i : Nat} {ce : Ex} {ρ : Env} (f : D → O) (hl : i < ρ.length) : ∀ {xs : List D} {x : Option O} {acc : List O}, acc.length + xs.length ≤ line →
    (∀ d, d ∈ xs → ce (ρ.set i (some (.fz d))) = .ok (f d) (ρ.set i (some (.fz d)))) → ∃ x', compG [i] (.nm i) tT (push ce) xs (ρ.set i x) acc = .ok (acc ++ xs.map f) (ρ.set i x')
  | [], x, acc, _, _ => ⟨x, by unfold compG; simp⟩
  | d :: r, x, acc, hz, h => by
    have e1 := h d (List.mem_cons_self ..)
    obtain ⟨x2, e2⟩ := comp_map f hl (xs := r) (x := some (.fz d)) (acc := acc ++ [f d]) (by simp at hz ⊢; omega) fun d hd => h d (List.mem_cons_of_mem _ hd)
    refine ⟨x2, ?_⟩
    unfold compG
    have ha : asgn (.nm i) (.fz d) (hide [i] (ρ.set i x)) = some (ρ.set i (some (.fz d))) := by simp [hide, asgn, hl]
    rw [ha]
    simp only [tT, R.ne, R.bind, if_true, push, e1]
    rw [if_pos (by simp at hz; omega)]
    simp only [R.ne, R.bind]
    rw [e2]
    simp
theorem eComp_map {i : Nat} {ce : Ex} {it : Itx} {xs : List D} {ρ : Env} (f : D → O) (hn : ρ[i]? = some none) (hit : it ρ = .ok xs ρ) (hx : xs.length ≤ line)
    (h : ∀ d, d ∈ xs → ce (ρ.set i (some (.fz d))) = .ok (f d) (ρ.set i (some (.fz d)))) : eComp [i] (.nm i) it tT ce ρ = .ok (.lst (xs.map f)) ρ := by
  have hl : i < ρ.length := by
    rcases Nat.lt_or_ge i ρ.length with z | z
    · exact z
    · rw [List.getElem?_eq_none_iff.mpr z] at hn; cases hn
  obtain ⟨x', e⟩ := comp_map f hl (xs := xs) (x := none) (acc := []) (by simpa using hx) h
  unfold eComp
  rw [hit]
  rw [set_same hn] at e
  have hf : ownFree [i] ρ = true := by simp [ownFree, hn]
  simp only [R.bind, hf, Bool.not_true, Bool.false_eq_true, if_false, e, List.nil_append]
  congr 1
  simp only [unhide, List.foldl, hn, List.set_set]
  exact set_same hn
theorem def_ret {n np : Nat} {io : List Nat} {body : Stx} {os : List O} {o : O} {ρ : Env} {outs : Env} (hl : os.length = np) (hb : body (os.map some ++ List.replicate (n - np) none) = .ok (.ret o) ρ) (ho : outsOf io ρ = some outs) : runDef n np io body os = .ok o outs := by
  unfold runDef
  rw [if_pos hl, hb]
  simp only [ho]
/-! ### calls -/
theorem callv1 {f : FSem} {a : Ex} {ρ : Env} {x o : O} (ha : a ρ = .ok x ρ) (hf : f [.fz x.fr] = .ok o []) : eCall f [.v a] ρ = .ok o ρ := by
  simp [eCall, args, ha, bi_ok, fillA, hf, backA, hide, ios]
theorem callv2 {f : FSem} {a b : Ex} {ρ : Env} {x y o : O} (ha : a ρ = .ok x ρ) (hb : b ρ = .ok y ρ) (hf : f [.fz x.fr, .fz y.fr] = .ok o []) : eCall f [.v a, .v b] ρ = .ok o ρ := by
  simp [eCall, args, ha, hb, bi_ok, fillA, hf, backA, hide, ios]
theorem callv3 {f : FSem} {a b c : Ex} {ρ : Env} {x y z o : O} (ha : a ρ = .ok x ρ) (hb : b ρ = .ok y ρ) (hc : c ρ = .ok z ρ) (hf : f [.fz x.fr, .fz y.fr, .fz z.fr] = .ok o []) : eCall f [.v a, .v b, .v c] ρ = .ok o ρ := by
  simp [eCall, args, ha, hb, hc, bi_ok, fillA, hf, backA, hide, ios]
theorem at_lt {α : Type} {l : List α} {i : Nat} {x : α} (h : l[i]? = some x) : i < l.length := by
  rcases Nat.lt_or_ge i l.length with z | z
  · exact z
  · rw [List.getElem?_eq_none_iff.mpr z] at h; cases h
theorem callio1 {f : FSem} {i : Nat} {a : Ex} {ρ : Env} {x o b b' : O} (hb : ρ[i]? = some (some b)) (ha : a ρ = .ok x ρ) (hf : f [b, .fz x.fr] = .ok o [some b']) : eCall f [.io i, .v a] ρ = .ok o (ρ.set i (some b')) := by
  have h1 : args [.v a] ρ = .ok [some (.fz x.fr)] ρ := by simp [args, ha, bi_ok]
  have h2 : args [.io i, .v a] ρ = .ok [none, some (.fz x.fr)] ρ := by
    unfold args; rw [hb]; simp only [h1, bi_ok]
  have h3 : fillA [.io i, .v a] [none, some (.fz x.fr)] ρ = some [b, .fz x.fr] := by unfold fillA; rw [hb]; rfl
  have h4 : backA [.io i, .v a] [some b'] (hide (ios [.io i, .v a]) ρ) = some (ρ.set i (some b')) := by
    show (if i < (ρ.set i none).length then backA [.v a] [] ((ρ.set i none).set i (some b')) else none) = _
    rw [if_pos (by rw [List.length_set]; exact at_lt hb), List.set_set]; rfl
  simp only [eCall, h2, bi_ok, h3, hf, h4]
theorem callio2 {f : FSem} {i : Nat} {a c : Ex} {ρ : Env} {x y o b b' : O} (hb : ρ[i]? = some (some b)) (ha : a ρ = .ok x ρ) (hc : c ρ = .ok y ρ) (hf : f [b, .fz x.fr, .fz y.fr] = .ok o [some b']) : eCall f [.io i, .v a, .v c] ρ = .ok o (ρ.set i (some b')) := by
  have h1 : args [.v a, .v c] ρ = .ok [some (.fz x.fr), some (.fz y.fr)] ρ := by simp [args, ha, hc, bi_ok]
  have h2 : args [.io i, .v a, .v c] ρ = .ok [none, some (.fz x.fr), some (.fz y.fr)] ρ := by
    unfold args; rw [hb]; simp only [h1, bi_ok]
  have h3 : fillA [.io i, .v a, .v c] [none, some (.fz x.fr), some (.fz y.fr)] ρ = some [b, .fz x.fr, .fz y.fr] := by unfold fillA; rw [hb]; rfl
  have h4 : backA [.io i, .v a, .v c] [some b'] (hide (ios [.io i, .v a, .v c]) ρ) = some (ρ.set i (some b')) := by
    show (if i < (ρ.set i none).length then backA [.v a, .v c] [] ((ρ.set i none).set i (some b')) else none) = _
    rw [if_pos (by rw [List.length_set]; exact at_lt hb), List.set_set]; rfl
  simp only [eCall, h2, bi_ok, h3, hf, h4]
/-! ### one after another -/
theorem ok_seq {s t : Stx} {ρ ρ' : Env} {P : Flow → Env → Prop} (h : s ρ = .ok .nx ρ') (k : Ok (t ρ') P) : Ok (sSeq s t ρ) P := by
  unfold sSeq
  rw [h]
  exact k
theorem ok_seqI {s t : Stx} {ρ : Env} {P : Flow → Env → Prop} (Q : Env → Prop) (h : Ok (s ρ) fun f ρ' => f = .nx ∧ Q ρ') (k : ∀ ρ', Q ρ' → Ok (t ρ') P) : Ok (sSeq s t ρ) P := by
  obtain ⟨f, ρ', e, rfl, q⟩ := ok_eq h
  exact ok_seq e (k ρ' q)
end FA
/-! FAsep: what data stand for in the hand layer's heap: RepF (frozen), RepO (owned, with the addresses that it owns), G (many of them, apart). -/
namespace FA
open PySem L2

abbrev CT := String → Option Addr
def Str' (s : List Nat) : Str := ⟨s.toArray⟩
def Sub (F H : Hp) : Prop := ∀ a o, F a = some o → H a = some o
theorem Sub.refl (H : Hp) : Sub H H := fun _ _ h => h
theorem Sub.trans {F G H : Hp} (a : Sub F G) (b : Sub G H) : Sub F H := fun x o h => b x o (a x o h)
theorem Sub.new {H : Hp} {p : Addr} {o : HO} (h : H p = none) : Sub H (upd H p o) := fun a u e => by
  rw [upd_ne (ne_of_none e h)]; exact e
theorem Sub.both {F H : Hp} {p : Addr} {o : HO} (s : Sub F H) : Sub (upd F p o) (upd H p o) := fun a u e => by
  by_cases h : a = p
  · subst h; rw [upd_same] at e ⊢; exact e
  · rw [upd_ne h] at e ⊢; exact s a u e

/-! ### keys -/
mutual
def RepK (F : Hp) : D → V → Prop
  | .non, v => v = .non
  | .bl b, v => v = .bl b
  | .int i, v => v = .int i
  | .str s, v => v = .str (Str' s)
  | .tup ds, v => ∃ a vs, v = .ref a ∧ F a = some (.tup vs) ∧ RepKs F ds vs
  | _, _ => False
def RepKs (F : Hp) : List D → List V → Prop
  | [], vs => vs = []
  | d :: r, vs => ∃ v vr, vs = v :: vr ∧ RepK F d v ∧ RepKs F r vr
end
/-- at a stands a dict of these keys and values -/
def keyOf : D → Option Key
  | .int i => some (.inl i)
  | .str s => some (.inr (Str' s))
  | _ => none
def DicLeaf (H : Hp) (a : Addr) (kvs : List (D × V)) : Prop := ∃ kk : List (Key × V), H a = some (.dK kk) ∧ kk.map (fun p => some p.1) = kvs.map (fun p => keyOf p.1) ∧ kk.map (·.2) = kvs.map (·.2)
/-- a dict of tuples: its object by its entries; W says what is so of the object -/
structure DicTup (Ob : Addr → List (D × Addr × V) → Heap → Prop) (F H : Hp) (a : Addr) (kvs : List (D × V)) : Prop where
  ex : ∃ xs : List (D × Addr × V), H a = some (.ext (Ob a xs)) ∧ xs.map (fun x => (x.1, x.2.2)) = kvs ∧ ∀ x ∈ xs, RepK F x.1 (.ref x.2.1)

structure Wd where
  P : Program
  w : World
  K : PySem.W.Frag
  ct : CT
  Ob : Addr → List (D × Addr × V) → Heap → Prop
section
variable (Γ : Wd)
def DicRep (F H : Hp) (a : Addr) (kvs : List (D × V)) : Prop := DicLeaf H a kvs ∨ DicTup Γ.Ob F H a kvs

mutual
def RepF (F : Hp) : D → V → Prop
  | .non, v => v = .non
  | .bl b, v => v = .bl b
  | .int i, v => v = .int i
  | .str s, v => v = .str (Str' s)
  | .lst ds, v => ∃ a vs, v = .ref a ∧ F a = some (.lst vs) ∧ RepFs F ds vs
  | .tup ds, v => ∃ a vs, v = .ref a ∧ F a = some (.tup vs) ∧ RepFs F ds vs
  | .dic kvs, v => ∃ a kvv, v = .ref a ∧ DicRep Γ F F a kvv ∧ RepFk F kvs kvv
  | .ins c fs, v => ∃ a C dx fvs, v = .ref a ∧ Γ.ct c = some C ∧ F a = some (.ins C dx fvs) ∧ RepFf F c fs fvs
  | .scr ns, v => ∃ a, v = .ref a ∧ SqL Γ.K F a (ns.map V.int)
def RepFs (F : Hp) : List D → List V → Prop
  | [], vs => vs = []
  | d :: r, vs => ∃ v vr, vs = v :: vr ∧ RepF F d v ∧ RepFs F r vr
def RepFk (F : Hp) : List (D × D) → List (D × V) → Prop
  | [], vs => vs = []
  | (k, d) :: r, vs => ∃ v vr, vs = (k, v) :: vr ∧ RepF F d v ∧ RepFk F r vr
def RepFf (F : Hp) (c : String) : List (String × D) → List (Str × V) → Prop
  | [], vs => vs = []
  | (k, d) :: r, vs => ∃ v vr, vs = (Str.ofString k, v) :: vr ∧ k ∈ attrsOf c ∧ RepF F d v ∧ RepFf F c r vr
end
mutual
def RepO (F H : Hp) : O → V → List Addr → Prop
  | .fz d, v, fp => RepF Γ F d v ∧ fp = []
  | .lst os, v, fp => ∃ a vs f, v = .ref a ∧ H a = some (.lst vs) ∧ fp = a :: f ∧ RepOs F H os vs f
  | .tup os, v, fp => ∃ a vs, v = .ref a ∧ F a = some (.tup vs) ∧ RepOs F H os vs fp
  | .dic kos, v, fp => ∃ a kvv f, v = .ref a ∧ DicRep Γ F H a kvv ∧ fp = a :: f ∧ RepOk F H kos kvv f
  | .ins c fs, v, fp => ∃ a C dx fvs f, v = .ref a ∧ Γ.ct c = some C ∧ H a = some (.ins C dx fvs) ∧ fp = a :: f ∧ RepOf F H c fs fvs f
def RepOs (F H : Hp) : List O → List V → List Addr → Prop
  | [], vs, fp => vs = [] ∧ fp = []
  | o :: r, vs, fp => ∃ v vr f1 f2, vs = v :: vr ∧ fp = f1 ++ f2 ∧ RepO F H o v f1 ∧ RepOs F H r vr f2
def RepOk (F H : Hp) : List (D × O) → List (D × V) → List Addr → Prop
  | [], vs, fp => vs = [] ∧ fp = []
  | (k, o) :: r, vs, fp => ∃ v vr f1 f2, vs = (k, v) :: vr ∧ fp = f1 ++ f2 ∧ RepO F H o v f1 ∧ RepOk F H r vr f2
def RepOf (F H : Hp) (c : String) : List (String × O) → List (Str × V) → List Addr → Prop
  | [], vs, fp => vs = [] ∧ fp = []
  | (k, o) :: r, vs, fp => ∃ v vr f1 f2, vs = (Str.ofString k, v) :: vr ∧ k ∈ attrsOf c ∧ fp = f1 ++ f2 ∧ RepO F H o v f1 ∧ RepOf F H c r vr f2
end
end

section
variable {F F' H H' : Hp}
mutual
theorem RepK.mono (h : Sub F F') : ∀ {d : D} {v : V}, RepK F d v → RepK F' d v
  | .non, _, r => r
  | .bl _, _, r => r
  | .int _, _, r => r
  | .str _, _, r => r
  | .tup _, _, ⟨a, vs, e, q, r⟩ => ⟨a, vs, e, h _ _ q, RepKs.mono h r⟩
  | .lst _, _, r => r.elim
  | .dic _, _, r => r.elim
  | .ins _ _, _, r => r.elim
  | .scr _, _, r => r.elim
theorem RepKs.mono (h : Sub F F') : ∀ {ds : List D} {vs : List V}, RepKs F ds vs → RepKs F' ds vs
  | [], _, r => r
  | _ :: _, _, ⟨v, vr, e, r, s⟩ => ⟨v, vr, e, RepK.mono h r, RepKs.mono h s⟩
end
variable {Γ : Wd}
theorem DicRep.mono {a : Addr} {kvs : List (D × V)} (hF : Sub F F') (hH : ∀ o, H a = some o → H' a = some o) (r : DicRep Γ F H a kvs) : DicRep Γ F' H' a kvs := by
  rcases r with ⟨kk, e, x⟩ | ⟨⟨xs, e, x, k⟩⟩
  · exact .inl ⟨kk, hH _ e, x⟩
  · exact .inr ⟨xs, hH _ e, x, fun y hy => RepK.mono hF (k y hy)⟩
mutual
theorem RepF.mono (h : Sub F F') : ∀ {d : D} {v : V}, RepF Γ F d v → RepF Γ F' d v
  | .non, _, r => r
  | .bl _, _, r => r
  | .int _, _, r => r
  | .str _, _, r => r
  | .lst _, _, ⟨a, vs, e, q, r⟩ => ⟨a, vs, e, h _ _ q, RepFs.mono h r⟩
  | .tup _, _, ⟨a, vs, e, q, r⟩ => ⟨a, vs, e, h _ _ q, RepFs.mono h r⟩
  | .dic _, _, ⟨a, k, e, q, r⟩ => ⟨a, k, e, q.mono h (fun o z => h _ _ z), RepFk.mono h r⟩
  | .ins _ _, _, ⟨a, C, dx, fvs, e, c, q, r⟩ => ⟨a, C, dx, fvs, e, c, h _ _ q, RepFf.mono h r⟩
  | .scr _, _, ⟨a, e, q⟩ => ⟨a, e, Same.seq h q⟩
theorem RepFs.mono (h : Sub F F') : ∀ {ds : List D} {vs : List V}, RepFs Γ F ds vs → RepFs Γ F' ds vs
  | [], _, r => r
  | _ :: _, _, ⟨v, vr, e, r, s⟩ => ⟨v, vr, e, RepF.mono h r, RepFs.mono h s⟩
theorem RepFk.mono (h : Sub F F') : ∀ {ds : List (D × D)} {vs : List (D × V)}, RepFk Γ F ds vs → RepFk Γ F' ds vs
  | [], _, r => r
  | (_, _) :: _, _, ⟨v, vr, e, r, s⟩ => ⟨v, vr, e, RepF.mono h r, RepFk.mono h s⟩
theorem RepFf.mono (h : Sub F F') : ∀ {c : String} {ds : List (String × D)} {vs : List (Str × V)}, RepFf Γ F c ds vs → RepFf Γ F' c ds vs
  | _, [], _, r => r
  | _, (_, _) :: _, _, ⟨v, vr, e, c, r, s⟩ => ⟨v, vr, e, c, RepF.mono h r, RepFf.mono h s⟩
end
mutual
theorem RepO.frame (h : Sub F F') : ∀ {o : O} {v : V} {fp : List Addr}, (∀ a ∈ fp, H' a = H a) → RepO Γ F H o v fp → RepO Γ F' H' o v fp
  | .fz _, _, _, _, ⟨r, e⟩ => ⟨RepF.mono h r, e⟩
  | .lst _, _, _, k, ⟨a, vs, f, e, q, ef, r⟩ => ⟨a, vs, f, e, (k a (by rw [ef]; exact .head _)).trans q, ef, RepOs.frame h (fun b hb => k b (by rw [ef]; exact .tail _ hb)) r⟩
  | .tup _, _, _, k, ⟨a, vs, e, q, r⟩ => ⟨a, vs, e, h _ _ q, RepOs.frame h k r⟩
  | .dic _, _, _, k, ⟨a, vs, f, e, q, ef, r⟩ => ⟨a, vs, f, e, q.mono h (fun o z => (k a (by rw [ef]; exact .head _)).trans z), ef, RepOk.frame h (fun b hb => k b (by rw [ef]; exact .tail _ hb)) r⟩
  | .ins _ _, _, _, k, ⟨a, C, dx, fvs, f, e, c, q, ef, r⟩ => ⟨a, C, dx, fvs, f, e, c, (k a (by rw [ef]; exact .head _)).trans q, ef, RepOf.frame h (fun b hb => k b (by rw [ef]; exact .tail _ hb)) r⟩
theorem RepOs.frame (h : Sub F F') : ∀ {os : List O} {vs : List V} {fp : List Addr}, (∀ a ∈ fp, H' a = H a) → RepOs Γ F H os vs fp → RepOs Γ F' H' os vs fp
  | [], _, _, _, r => r
  | _ :: _, _, _, k, ⟨v, vr, f1, f2, e, ef, r, s⟩ => ⟨v, vr, f1, f2, e, ef, RepO.frame h (fun b hb => k b (by rw [ef]; exact List.mem_append_left _ hb)) r, RepOs.frame h (fun b hb => k b (by rw [ef]; exact List.mem_append_right _ hb)) s⟩
theorem RepOk.frame (h : Sub F F') : ∀ {os : List (D × O)} {vs : List (D × V)} {fp : List Addr}, (∀ a ∈ fp, H' a = H a) → RepOk Γ F H os vs fp → RepOk Γ F' H' os vs fp
  | [], _, _, _, r => r
  | (_, _) :: _, _, _, k, ⟨v, vr, f1, f2, e, ef, r, s⟩ => ⟨v, vr, f1, f2, e, ef, RepO.frame h (fun b hb => k b (by rw [ef]; exact List.mem_append_left _ hb)) r, RepOk.frame h (fun b hb => k b (by rw [ef]; exact List.mem_append_right _ hb)) s⟩
theorem RepOf.frame (h : Sub F F') : ∀ {c : String} {os : List (String × O)} {vs : List (Str × V)} {fp : List Addr}, (∀ a ∈ fp, H' a = H a) → RepOf Γ F H c os vs fp → RepOf Γ F' H' c os vs fp
  | _, [], _, _, _, r => r
  | _, (_, _) :: _, _, _, k, ⟨v, vr, f1, f2, e, c, ef, r, s⟩ => ⟨v, vr, f1, f2, e, c, ef, RepO.frame h (fun b hb => k b (by rw [ef]; exact List.mem_append_left _ hb)) r, RepOf.frame h (fun b hb => k b (by rw [ef]; exact List.mem_append_right _ hb)) s⟩
end
/- frozen as it stands -/
mutual
theorem RepO.freeze (h : Sub F F') : ∀ {o : O} {v : V} {fp : List Addr}, (∀ a ∈ fp, ∀ u, H a = some u → F' a = some u) → RepO Γ F H o v fp → RepF Γ F' o.fr v
  | .fz _, _, _, _, ⟨r, e⟩ => RepF.mono h r
  | .lst _, _, _, k, ⟨a, vs, f, e, q, ef, r⟩ => ⟨a, vs, e, k a (by rw [ef]; exact .head _) _ q, RepOs.freeze h (fun b hb => k b (by rw [ef]; exact .tail _ hb)) r⟩
  | .tup _, _, _, k, ⟨a, vs, e, q, r⟩ => ⟨a, vs, e, h _ _ q, RepOs.freeze h k r⟩
  | .dic _, _, _, k, ⟨a, vs, f, e, q, ef, r⟩ => ⟨a, vs, e, q.mono h (fun o z => k a (by rw [ef]; exact .head _) _ z), RepOk.freeze h (fun b hb => k b (by rw [ef]; exact .tail _ hb)) r⟩
  | .ins _ _, _, _, k, ⟨a, C, dx, fvs, f, e, c, q, ef, r⟩ => ⟨a, C, dx, fvs, e, c, k a (by rw [ef]; exact .head _) _ q, RepOf.freeze h (fun b hb => k b (by rw [ef]; exact .tail _ hb)) r⟩
theorem RepOs.freeze (h : Sub F F') : ∀ {os : List O} {vs : List V} {fp : List Addr}, (∀ a ∈ fp, ∀ u, H a = some u → F' a = some u) → RepOs Γ F H os vs fp → RepFs Γ F' (frs os) vs
  | [], _, _, _, r => r.1
  | _ :: _, _, _, k, ⟨v, vr, f1, f2, e, ef, r, s⟩ => ⟨v, vr, e, RepO.freeze h (fun b hb => k b (by rw [ef]; exact List.mem_append_left _ hb)) r, RepOs.freeze h (fun b hb => k b (by rw [ef]; exact List.mem_append_right _ hb)) s⟩
theorem RepOk.freeze (h : Sub F F') : ∀ {os : List (D × O)} {vs : List (D × V)} {fp : List Addr}, (∀ a ∈ fp, ∀ u, H a = some u → F' a = some u) → RepOk Γ F H os vs fp → RepFk Γ F' (frk os) vs
  | [], _, _, _, r => r.1
  | (_, _) :: _, _, _, k, ⟨v, vr, f1, f2, e, ef, r, s⟩ => ⟨v, vr, e, RepO.freeze h (fun b hb => k b (by rw [ef]; exact List.mem_append_left _ hb)) r, RepOk.freeze h (fun b hb => k b (by rw [ef]; exact List.mem_append_right _ hb)) s⟩
theorem RepOf.freeze (h : Sub F F') : ∀ {c : String} {os : List (String × O)} {vs : List (Str × V)} {fp : List Addr}, (∀ a ∈ fp, ∀ u, H a = some u → F' a = some u) → RepOf Γ F H c os vs fp → RepFf Γ F' c (frf os) vs
  | _, [], _, _, _, r => r.1
  | _, (_, _) :: _, _, _, k, ⟨v, vr, f1, f2, e, c, ef, r, s⟩ => ⟨v, vr, e, c, RepO.freeze h (fun b hb => k b (by rw [ef]; exact List.mem_append_left _ hb)) r, RepOf.freeze h (fun b hb => k b (by rw [ef]; exact List.mem_append_right _ hb)) s⟩
end
/-- a look at it: all of it can be read in the whole heap -/
theorem RepO.view {o : O} {v : V} {fp : List Addr} (h : Sub F H) (r : RepO Γ F H o v fp) : RepF Γ H o.fr v := r.freeze h fun _ _ _ e => e

/-! ### many of them, apart -/
abbrev Bag := List (V × O)
def RepL (Γ : Wd) (F H : Hp) : Bag → List Addr → Prop
  | [], fp => fp = []
  | (v, o) :: r, fp => ∃ f1 f2, fp = f1 ++ f2 ∧ RepO Γ F H o v f1 ∧ RepL Γ F H r f2
theorem RepL.frame (h : Sub F F') : ∀ {xs : Bag} {fp : List Addr}, (∀ a ∈ fp, H' a = H a) → RepL Γ F H xs fp → RepL Γ F' H' xs fp
  | [], _, _, r => r
  | (_, _) :: _, _, k, ⟨f1, f2, ef, r, s⟩ => ⟨f1, f2, ef, RepO.frame h (fun b hb => k b (by rw [ef]; exact List.mem_append_left _ hb)) r, RepL.frame h (fun b hb => k b (by rw [ef]; exact List.mem_append_right _ hb)) s⟩
theorem RepL.append : ∀ {xs ys : Bag} {f g : List Addr}, RepL Γ F H xs f → RepL Γ F H ys g → RepL Γ F H (xs ++ ys) (f ++ g)
  | [], _, _, _, e, s => by rw [show _ = _ from e]; exact s
  | (_, _) :: _, _, _, g, ⟨f1, f2, ef, r, s⟩, t => ⟨f1, f2 ++ g, by rw [ef, List.append_assoc], r, RepL.append s t⟩
theorem RepL.split : ∀ {xs ys : Bag} {f : List Addr}, RepL Γ F H (xs ++ ys) f → ∃ f1 f2, f = f1 ++ f2 ∧ RepL Γ F H xs f1 ∧ RepL Γ F H ys f2
  | [], _, f, r => ⟨[], f, rfl, rfl, r⟩
  | (_, _) :: _, _, _, ⟨f1, f2, ef, r, s⟩ => by
    obtain ⟨g1, g2, eg, s1, s2⟩ := RepL.split s
    exact ⟨f1 ++ g1, g2, by rw [ef, eg, List.append_assoc], ⟨f1, g1, rfl, r, s1⟩, s2⟩
theorem RepL.perm {xs ys : Bag} (p : xs.Perm ys) : ∀ {f : List Addr}, RepL Γ F H xs f → ∃ g, f.Perm g ∧ RepL Γ F H ys g := by
  induction p with
  | nil => intro f r; exact ⟨f, .refl _, r⟩
  | cons x _ ih =>
    rintro f ⟨f1, f2, rfl, r, s⟩
    obtain ⟨g, pg, s'⟩ := ih s
    exact ⟨f1 ++ g, pg.append_left f1, f1, g, rfl, r, s'⟩
  | swap x y l =>
    rintro f ⟨f1, f2, rfl, r, f3, f4, rfl, r', s⟩
    refine ⟨f3 ++ (f1 ++ f4), ?_, f3, _, rfl, r', f1, f4, rfl, r, s⟩
    rw [← List.append_assoc, ← List.append_assoc]
    exact List.perm_append_comm.append_right f4
  | trans _ _ ih1 ih2 =>
    intro f r
    obtain ⟨g, p1, r1⟩ := ih1 r
    obtain ⟨g', p2, r2⟩ := ih2 r1
    exact ⟨g', p1.trans p2, r2⟩
theorem RepOs.toL : ∀ {os : List O} {vs : List V} {fp : List Addr}, RepOs Γ F H os vs fp → vs.length = os.length ∧ RepL Γ F H (vs.zip os) fp
  | [], _, _, ⟨e, f⟩ => by subst e; exact ⟨rfl, f⟩
  | _ :: _, _, _, ⟨v, vr, f1, f2, e, ef, r, s⟩ => by
    subst e
    obtain ⟨l, s'⟩ := RepOs.toL s
    exact ⟨by simp [l], f1, f2, ef, r, s'⟩
theorem RepOs.ofL : ∀ {os : List O} {vs : List V} {fp : List Addr}, vs.length = os.length → RepL Γ F H (vs.zip os) fp → RepOs Γ F H os vs fp
  | [], [], _, _, r => ⟨rfl, r⟩
  | [], _ :: _, _, l, _ => by simp at l
  | _ :: _, [], _, l, _ => by simp at l
  | _ :: _, v :: vr, _, l, ⟨f1, f2, ef, r, s⟩ => ⟨v, vr, f1, f2, rfl, ef, r, RepOs.ofL (by simpa using l) s⟩

/-- the owned ones xs stand apart, and apart from what is frozen (F), from the frame (Fr) and from the loose addresses L -/
structure G (Γ : Wd) (F Fr H : Hp) (L : List Addr) (xs : Bag) : Prop where
  sub : Sub F H
  fr : Sub Fr H
  off : ∀ a u, F a = some u → Fr a = none
  ex : ∃ fp, (fp ++ L).Nodup ∧ (∀ a ∈ fp ++ L, F a = none ∧ Fr a = none ∧ ∃ u, H a = some u) ∧ RepL Γ F H xs fp
variable {Fr : Hp} {L : List Addr} {xs ys : Bag} {v : V} {o : O}
theorem G.perm (g : G Γ F Fr H L xs) (p : xs.Perm ys) : G Γ F Fr H L ys := by
  obtain ⟨a, b, c, fp, nd, al, r⟩ := g
  obtain ⟨gp, pg, r'⟩ := r.perm p
  exact ⟨a, b, c, gp, (pg.append_right L).nodup_iff.mp nd, fun x hx => al x ((pg.append_right L).mem_iff.mpr hx), r'⟩
theorem G.tail (g : G Γ F Fr H L ((v, o) :: xs)) : G Γ F Fr H L xs := by
  obtain ⟨a, b, c, fp, nd, al, f1, f2, rfl, r, s⟩ := g
  rw [List.append_assoc] at nd al
  exact ⟨a, b, c, f2, (List.nodup_append.mp nd).2.1, fun x hx => al x (List.mem_append_right _ hx), s⟩
theorem G.drop (g : G Γ F Fr H L (ys ++ xs)) : G Γ F Fr H L xs := by
  induction ys with
  | nil => exact g
  | cons y r ih => exact ih (G.tail (v := y.1) (o := y.2) g)
theorem G.unloose {a : Addr} (g : G Γ F Fr H (a :: L) xs) : G Γ F Fr H L xs := by
  obtain ⟨x, b, c, fp, nd, al, r⟩ := g
  have p : (fp ++ a :: L).Perm (a :: (fp ++ L)) := List.perm_middle
  have nd' := p.nodup_iff.mp nd
  exact ⟨x, b, c, fp, (List.nodup_cons.mp nd').2, fun y hy => al y (p.mem_iff.mpr (.tail _ hy)), r⟩
theorem G.head (g : G Γ F Fr H L ((v, o) :: xs)) : ∃ fp, RepO Γ F H o v fp := by
  obtain ⟨_, _, _, fp, _, _, f1, f2, _, r, _⟩ := g
  exact ⟨f1, r⟩
theorem G.view (g : G Γ F Fr H L ((v, o) :: xs)) : RepF Γ H o.fr v := by
  obtain ⟨fp, r⟩ := g.head
  exact r.view g.sub
theorem G.fzF {d : D} (g : G Γ F Fr H L ((v, .fz d) :: xs)) : RepF Γ F d v := by
  obtain ⟨fp, r, _⟩ := g.head
  exact r
theorem G.addF {d : D} (g : G Γ F Fr H L xs) (r : RepF Γ F d v) : G Γ F Fr H L ((v, .fz d) :: xs) := by
  obtain ⟨a, b, c, fp, nd, al, s⟩ := g
  exact ⟨a, b, c, fp, nd, al, [], fp, rfl, ⟨r, rfl⟩, s⟩
def jn (F H : Hp) (fp : List Addr) : Hp := fun a => if a ∈ fp then H a else F a
theorem jn_in {F H : Hp} {fp : List Addr} {a : Addr} (h : a ∈ fp) : jn F H fp a = H a := if_pos h
theorem jn_out {F H : Hp} {fp : List Addr} {a : Addr} (h : a ∉ fp) : jn F H fp a = F a := if_neg h
theorem G.freeze (g : G Γ F Fr H L ((v, o) :: xs)) : ∃ F', Sub F F' ∧ G Γ F' Fr H L ((v, .fz o.fr) :: xs) := by
  obtain ⟨sb, fr, off, fp, nd, al, f1, f2, rfl, r, s⟩ := g
  have s1 : Sub F (jn F H f1) := fun a u e => by
    have : a ∉ f1 := fun h => by rw [(al a (by simp [h])).1] at e; cases e
    rw [jn_out this]; exact e
  rw [List.append_assoc] at nd
  have nd2 := List.nodup_append.mp nd
  refine ⟨jn F H f1, s1, ⟨fun a u e => ?_, fr, fun a u e => ?_, f2, nd2.2.1, fun x hx => ?_, [], f2, rfl, ⟨r.freeze s1 fun a ha u e => by rw [jn_in ha]; exact e, rfl⟩, s.frame s1 fun _ _ => rfl⟩⟩
  · by_cases h : a ∈ f1
    · rw [jn_in h] at e; exact e
    · rw [jn_out h] at e; exact sb a u e
  · by_cases h : a ∈ f1
    · exact (al a (by simp [h])).2.1
    · rw [jn_out h] at e; exact off a u e
  · have hx1 : x ∉ f1 := fun h => nd2.2.2 x h x hx rfl
    rw [jn_out hx1]
    exact al x (by rw [List.append_assoc]; exact List.mem_append_right _ hx)
/-- into the frame, and back -/
theorem G.toFr (g : G Γ F Fr H L ((v, o) :: xs)) : ∃ fp, RepO Γ F H o v fp ∧ G Γ F (jn Fr H fp) H L xs ∧ (∀ a ∈ fp, Fr a = none ∧ F a = none) ∧ fp.Nodup := by
  obtain ⟨sb, fr, off, fp, nd, al, f1, f2, rfl, r, s⟩ := g
  rw [List.append_assoc] at nd
  have nd2 := List.nodup_append.mp nd
  refine ⟨f1, r, ⟨sb, fun a u e => ?_, fun a u e => ?_, f2, nd2.2.1, fun x hx => ?_, s⟩, fun a ha => ⟨(al a (by simp [ha])).2.1, (al a (by simp [ha])).1⟩, nd2.1⟩
  · by_cases h : a ∈ f1
    · rw [jn_in h] at e; exact e
    · rw [jn_out h] at e; exact fr a u e
  · by_cases h : a ∈ f1
    · have := (al a (by simp [h])).1; rw [e] at this; cases this
    · rw [jn_out h]; exact off a u e
  · have hx1 : x ∉ f1 := fun h => nd2.2.2 x h x hx rfl
    rw [jn_out hx1]
    exact al x (by rw [List.append_assoc]; exact List.mem_append_right _ hx)
theorem G.ofFr {fp : List Addr} {H0 F0 : Hp} (g : G Γ F (jn Fr H0 fp) H L xs) (r : RepO Γ F0 H0 o v fp) (h0 : Sub F0 F) (nd : fp.Nodup) (nf : ∀ a ∈ fp, Fr a = none ∧ ∃ u, H0 a = some u) (h : Sub Fr H) : G Γ F Fr H L ((v, o) :: xs) := by
  obtain ⟨sb, fr, off, f2, nd2, al, s⟩ := g
  have hk : ∀ a ∈ fp, H a = H0 a := fun a ha => by
    obtain ⟨u, hu⟩ := (nf a ha).2
    rw [hu]; exact fr a u (by rw [jn_in ha]; exact hu)
  have ho : ∀ a ∈ fp, F a = none := fun a ha => by
    cases e : F a with
    | none => rfl
    | some u =>
      have := off a u e
      rw [jn_in ha] at this
      obtain ⟨w, hw⟩ := (nf a ha).2
      rw [hw] at this; cases this
  have hd : ∀ a ∈ fp, a ∉ f2 ++ L := fun a ha hb => by
    have := (al a hb).2.1
    rw [jn_in ha] at this
    obtain ⟨w, hw⟩ := (nf a ha).2
    rw [hw] at this; cases this
  refine ⟨sb, h, fun a u e => ?_, fp ++ f2, ?_, fun x hx => ?_, fp, f2, rfl, r.frame h0 hk, s⟩
  · have := off a u e
    by_cases ha : a ∈ fp
    · exact (nf a ha).1
    · rw [jn_out ha] at this; exact this
  · rw [List.append_assoc]
    exact List.nodup_append.mpr ⟨nd, nd2, fun a ha b hb e => hd a ha (e ▸ hb)⟩
  · rw [List.append_assoc] at hx
    rcases List.mem_append.mp hx with hx | hx
    · obtain ⟨u, hu⟩ := (nf x hx).2
      exact ⟨ho x hx, (nf x hx).1, u, (hk x hx).trans hu⟩
    · obtain ⟨a1, a2, a3⟩ := al x hx
      have : x ∉ fp := fun z => hd x z hx
      rw [jn_out this] at a2
      exact ⟨a1, a2, a3⟩
theorem G.write {a : Addr} {u : HO} (g : G Γ F Fr H (a :: L) xs) : G Γ F Fr (upd H a u) (a :: L) xs := by
  obtain ⟨sb, fr, off, fp, nd, al, s⟩ := g
  have ha := al a (by simp)
  have hn : a ∉ fp := fun h => (List.nodup_append.mp nd).2.2 a h a (.head _) rfl
  refine ⟨fun x w e => ?_, fun x w e => ?_, off, fp, nd, fun x hx => ?_, s.frame (Sub.refl _) fun x hx => upd_ne fun z => hn (z ▸ hx)⟩
  · rw [upd_ne fun z => by subst z; rw [ha.1] at e; cases e]; exact sb x w e
  · rw [upd_ne fun z => by subst z; rw [ha.2.1] at e; cases e]; exact fr x w e
  · obtain ⟨p, q, w, hw⟩ := al x hx
    refine ⟨p, q, ?_⟩
    by_cases hxa : x = a
    · subst hxa; exact ⟨u, upd_same⟩
    · exact ⟨w, by rw [upd_ne hxa]; exact hw⟩
theorem G.new {p : Addr} {u : HO} (g : G Γ F Fr H L xs) (hp : H p = none) : G Γ F Fr (upd H p u) (p :: L) xs := by
  obtain ⟨sb, fr, off, fp, nd, al, s⟩ := g
  have hF : F p = none := by
    cases e : F p with
    | none => rfl
    | some w => rw [sb p w e] at hp; cases hp
  have hFr : Fr p = none := by
    cases e : Fr p with
    | none => rfl
    | some w => rw [fr p w e] at hp; cases hp
  have hne : ∀ x ∈ fp ++ L, x ≠ p := fun x hx z => by
    obtain ⟨_, _, w, hw⟩ := al x hx
    rw [z, hp] at hw; cases hw
  refine ⟨sb.trans (Sub.new hp), fr.trans (Sub.new hp), off, fp, ?_, fun x hx => ?_, s.frame (Sub.refl _) fun x hx => upd_ne (hne x (List.mem_append_left _ hx))⟩
  · exact List.perm_middle.nodup_iff.mpr (List.nodup_cons.mpr ⟨fun h => hne p h rfl, nd⟩)
  · rcases List.mem_cons.mp (List.perm_middle.mem_iff.mp hx) with rfl | hx
    · exact ⟨hF, hFr, u, upd_same⟩
    · obtain ⟨a1, a2, w, hw⟩ := al x hx
      exact ⟨a1, a2, w, by rw [upd_ne (hne x hx)]; exact hw⟩
/-- what is new and never changes goes to the frozen -/
theorem G.newF {p : Addr} {u : HO} (g : G Γ F Fr H L xs) (hp : H p = none) : G Γ (upd F p u) Fr (upd H p u) L xs := by
  obtain ⟨sb, fr, off, fp, nd, al, s⟩ := g
  have hF : F p = none := by
    cases e : F p with
    | none => rfl
    | some w => rw [sb p w e] at hp; cases hp
  have hFr : Fr p = none := by
    cases e : Fr p with
    | none => rfl
    | some w => rw [fr p w e] at hp; cases hp
  have hne : ∀ x ∈ fp ++ L, x ≠ p := fun x hx z => by
    obtain ⟨_, _, w, hw⟩ := al x hx
    rw [z, hp] at hw; cases hw
  refine ⟨sb.both, fr.trans (Sub.new hp), fun a w e => ?_, fp, nd, fun x hx => ?_, s.frame (Sub.new hF) fun x hx => upd_ne (hne x (List.mem_append_left _ hx))⟩
  · by_cases h : a = p
    · subst h; exact hFr
    · rw [upd_ne h] at e; exact off a w e
  · obtain ⟨a1, a2, w, hw⟩ := al x hx
    exact ⟨by rw [upd_ne (hne x hx)]; exact a1, a2, w, by rw [upd_ne (hne x hx)]; exact hw⟩
theorem G.newSub {p : Addr} {u : HO} (g : G Γ F Fr H L xs) (hp : H p = none) : Sub F (upd F p u) := Sub.new (by
  cases e : F p with
  | none => rfl
  | some w => rw [g.sub p w e] at hp; cases hp)
/-- a list is opened: its address is loose, its items stand by themselves -/
theorem G.openL {os : List O} (g : G Γ F Fr H L ((v, .lst os) :: xs)) : ∃ a vs, v = .ref a ∧ H a = some (.lst vs) ∧ vs.length = os.length ∧ G Γ F Fr H (a :: L) (vs.zip os ++ xs) := by
  obtain ⟨sb, fr, off, fp, nd, al, f1, f2, rfl, ⟨a, vs, f, e, q, rfl, r⟩, s⟩ := g
  obtain ⟨l, r'⟩ := r.toL
  have p : ((a :: f) ++ f2 ++ L).Perm (f ++ f2 ++ (a :: L)) := by
    show (a :: (f ++ f2 ++ L)).Perm (f ++ f2 ++ (a :: L))
    exact List.perm_middle.symm
  exact ⟨a, vs, e, q, l, ⟨sb, fr, off, f ++ f2, p.nodup_iff.mp nd, fun x hx => al x (p.mem_iff.mpr hx), r'.append s⟩⟩
theorem G.closeL {os : List O} {vs : List V} {a : Addr} (g : G Γ F Fr H (a :: L) (vs.zip os ++ xs)) (h : H a = some (.lst vs)) (l : vs.length = os.length) : G Γ F Fr H L ((.ref a, .lst os) :: xs) := by
  obtain ⟨sb, fr, off, fp, nd, al, r⟩ := g
  obtain ⟨f1, f2, rfl, r1, r2⟩ := r.split
  have p : ((a :: f1) ++ f2 ++ L).Perm (f1 ++ f2 ++ (a :: L)) := by
    show (a :: (f1 ++ f2 ++ L)).Perm (f1 ++ f2 ++ (a :: L))
    exact List.perm_middle.symm
  exact ⟨sb, fr, off, (a :: f1) ++ f2, p.nodup_iff.mpr nd, fun x hx => al x (p.mem_iff.mp hx), a :: f1, f2, rfl, ⟨a, vs, f1, rfl, h, rfl, .ofL l r1⟩, r2⟩
end
end FA
/-! FAden: an expression, a statement of the text means what FAev says. -/
namespace FA
open PySem L2

/-! ### slots -/
def live : St → Env → Bag
  | some v :: σ, some o :: ρ => (v, o) :: live σ ρ
  | _ :: σ, _ :: ρ => live σ ρ
  | _, _ => []
def SlotsOk : St → Env → Prop
  | v :: σ, o :: ρ => (∀ x, o = some x → ∃ y, v = some y) ∧ SlotsOk σ ρ
  | [], [] => True
  | _, _ => False
theorem SlotsOk.len : ∀ {σ : St} {ρ : Env}, SlotsOk σ ρ → σ.length = ρ.length
  | [], [], _ => rfl
  | _ :: _, _ :: _, h => by simp [SlotsOk.len h.2]
  | [], _ :: _, h => h.elim
  | _ :: _, [], h => h.elim
theorem SlotsOk.get : ∀ {σ : St} {ρ : Env} {i : Nat} {o : O}, SlotsOk σ ρ → ρ[i]? = some (some o) → ∃ v, σ[i]? = some (some v)
  | _ :: _, _ :: _, 0, o, h, e => by
    obtain ⟨y, hy⟩ := h.1 o (by simpa using e)
    exact ⟨y, by simp [hy]⟩
  | _ :: _, _ :: _, i + 1, o, h, e => by simpa using SlotsOk.get (i := i) h.2 (by simpa using e)
  | [], [], _, _, _, e => by simp at e
  | [], _ :: _, _, _, h, _ => h.elim
  | _ :: _, [], _, _, h, _ => h.elim
theorem SlotsOk.hid : ∀ {σ : St} {ρ : Env} (i : Nat), SlotsOk σ ρ → SlotsOk σ (ρ.set i none)
  | [], [], _, h => h
  | v :: σ, o :: ρ, 0, h => ⟨fun x z => (nomatch z), h.2⟩
  | v :: σ, o :: ρ, i + 1, h => ⟨h.1, SlotsOk.hid i h.2⟩
  | [], _ :: _, _, h => h.elim
  | _ :: _, [], _, h => h.elim
theorem SlotsOk.hid' : ∀ {σ : St} {ρ : Env} (i : Nat) (x : Option V), SlotsOk σ ρ → SlotsOk (σ.set i x) (ρ.set i none)
  | [], [], _, _, h => h
  | v :: σ, o :: ρ, 0, _, h => ⟨fun x z => (nomatch z), h.2⟩
  | v :: σ, o :: ρ, i + 1, x, h => ⟨h.1, SlotsOk.hid' i x h.2⟩
  | [], _ :: _, _, _, h => h.elim
  | _ :: _, [], _, _, h => h.elim
theorem SlotsOk.set : ∀ {σ : St} {ρ : Env} {i : Nat} {v : V} {o : O}, SlotsOk σ ρ → SlotsOk (σ.set i (some v)) (ρ.set i (some o))
  | [], [], _, _, _, h => h
  | _ :: σ, _ :: ρ, 0, v, o, h => ⟨fun x z => ⟨v, rfl⟩, h.2⟩
  | _ :: σ, _ :: ρ, i + 1, v, o, h => ⟨h.1, SlotsOk.set (i := i) h.2⟩
  | [], _ :: _, _, _, _, h => h.elim
  | _ :: _, [], _, _, _, h => h.elim
theorem SlotsOk.put : ∀ {σ : St} {ρ : Env} {i : Nat} {v : V} {o : O}, SlotsOk σ ρ → σ[i]? = some (some v) → SlotsOk σ (ρ.set i (some o))
  | [], [], _, _, _, h, _ => h
  | _ :: σ, _ :: ρ, 0, v, o, h, e => ⟨fun x z => ⟨v, by simpa using e⟩, h.2⟩
  | _ :: σ, _ :: ρ, i + 1, v, o, h, e => ⟨h.1, SlotsOk.put (i := i) (v := v) h.2 (by simpa using e)⟩
  | [], _ :: _, _, _, _, h, _ => h.elim
  | _ :: _, [], _, _, _, h, _ => h.elim
theorem live_get : ∀ {σ : St} {ρ : Env} {i : Nat} {v : V} {o : O}, SlotsOk σ ρ → ρ[i]? = some (some o) → σ[i]? = some (some v) → (live σ ρ).Perm ((v, o) :: live σ (ρ.set i none))
  | [], [], _, _, _, _, e, _ => by simp at e
  | a :: σ, b :: ρ, 0, v, o, h, e, e' => by
    have e1 : b = some o := by simpa using e
    have e2 : a = some v := by simpa using e'
    subst e1 e2
    show ((v, o) :: live σ ρ).Perm ((v, o) :: live (some v :: σ) (none :: ρ))
    exact .refl _
  | a :: σ, b :: ρ, i + 1, v, o, h, e, e' => by
    have ih := live_get (i := i) (v := v) (o := o) h.2 (by simpa using e) (by simpa using e')
    cases a with
    | none =>
      cases b with
      | none => exact ih
      | some o' => obtain ⟨y, z⟩ := h.1 o' rfl; cases z
    | some v' =>
      cases b with
      | none => exact ih
      | some o' => exact (ih.cons _).trans (.swap _ _ _)
  | [], _ :: _, _, _, _, h, _, _ => h.elim
  | _ :: _, [], _, _, _, h, _, _ => h.elim
theorem live_none_set : ∀ (σ : St) (ρ : Env) (i : Nat) (x : Option V), live (σ.set i x) (ρ.set i none) = live σ (ρ.set i none)
  | [], _, _, _ => rfl
  | a :: σ, [], 0, x => by cases a <;> cases x <;> rfl
  | a :: σ, [], i + 1, x => by cases a <;> rfl
  | a :: σ, b :: ρ, 0, x => by cases a <;> cases x <;> rfl
  | a :: σ, b :: ρ, i + 1, x => by
    show live (a :: σ.set i x) (b :: ρ.set i none) = live (a :: σ) (b :: ρ.set i none)
    have ih := live_none_set σ ρ i x
    cases a with
    | none => exact ih
    | some v =>
      cases b with
      | none => exact ih
      | some o => exact congrArg ((v, o) :: ·) ih
theorem set_get {α : Type} : ∀ {l : List α} {i : Nat} {x : α}, l[i]? = some x → l.set i x = l
  | [], _, _, e => by simp at e
  | a :: r, 0, x, e => by simp at e; simp [e]
  | a :: r, i + 1, x, e => by simp at e; simp [set_get e]
theorem live_drop {σ : St} {ρ : Env} (i : Nat) (h : SlotsOk σ ρ) : live σ (ρ.set i none) = live σ ρ ∨ ∃ p, (live σ ρ).Perm (p :: live σ (ρ.set i none)) := by
  cases e : ρ[i]? with
  | none =>
    left
    rw [List.set_eq_of_length_le (List.getElem?_eq_none_iff.mp e)]
  | some x =>
    cases x with
    | none => left; rw [set_get e]
    | some o =>
      obtain ⟨v, hv⟩ := h.get e
      exact .inr ⟨(v, o), live_get h e hv⟩

section
variable (Γ : Wd)
structure GS (F Fr H : Hp) (σ : St) (ρ : Env) (ts : Bag) : Prop where
  ok : SlotsOk σ ρ
  g : G Γ F Fr H [] (ts ++ live σ ρ)
/-- an error of one of the own classes: its object's dict -/
def ExcAt (F : Hp) (x : String) (ds : List D) (cls : Value) (dx : Option Addr) : Prop :=
  ∃ C d fvs, Γ.ct x = some C ∧ cls = .ref C ∧ dx = some d ∧ F d = some (.xd fvs) ∧ fvs.map (·.1) = (fieldsOf x).map Str.ofString ∧ RepFs Γ F ds (fvs.map (·.2))
/-- what is wanted of an outcome: Q of what came, W of an error -/
def Post {α : Type} (W : WX) (σ : St) (F Fr : Hp) (ts : Bag) (Q : α → Env → Hp → Hp → Prop) : R α → Prop
  | .ok o ρ' => ∀ F' H', Sub F F' → Q o ρ' F' H'
  | .exc x ds ρ' => ∀ cls dx F' H', Sub F F' → GS Γ F' Fr H' σ ρ' ts → ExcAt Γ F' x ds cls dx → W cls dx σ H'
  | .st => False
def QE (σ : St) (Fr : Hp) (ts : Bag) (Q : VK) : O → Env → Hp → Hp → Prop := fun o ρ' F' H' => ∀ v, GS Γ F' Fr H' σ ρ' ((v, o) :: ts) → Q v H'
def QT (σ : St) (Fr : Hp) (ts : Bag) (Q : Bool → Hp → Prop) : Bool → Env → Hp → Hp → Prop := fun b ρ' F' H' => GS Γ F' Fr H' σ ρ' ts → Q b H'
def QA (σ : St) (Fr : Hp) (ts : Bag) (Q : List V → Hp → Prop) : List O → Env → Hp → Hp → Prop := fun os ρ' F' H' => ∀ vs, vs.length = os.length → GS Γ F' Fr H' σ ρ' (vs.zip os ++ ts) → Q vs H'
def tD (W : WX) (c : Ex) : TE := fun σ H Q => ∃ ρ F Fr ts, GS Γ F Fr H σ ρ ts ∧ Post Γ W σ F Fr ts (QE Γ σ Fr ts Q) (c ρ)
def tDT (W : WX) (c : Tx) : TT := fun σ H Q => ∃ ρ F Fr ts, GS Γ F Fr H σ ρ ts ∧ Post Γ W σ F Fr ts (QT Γ σ Fr ts Q) (c ρ)
/-- what is only read -/
def tDP (p : Px) : TE := fun σ H Q => ∃ ρ F Fr ts o, GS Γ F Fr H σ ρ ts ∧ p ρ = some o ∧ ∀ v F' H' fp, Sub F F' → Sub H H' → GS Γ F' Fr H' σ ρ ts → RepO Γ F' H' o v fp → Q v H'
def tDA (W : WX) (es : List Ex) : TA := fun σ H Q => ∃ ρ F Fr ts, GS Γ F Fr H σ ρ ts ∧ Post Γ W σ F Fr ts (QA Γ σ Fr ts Q) (eAll es ρ)
def Kept (kp : List Nat) (σ σ' : St) : Prop := ∀ i ∈ kp, σ'[i]? = σ[i]?
/-- what is wanted of a flow -/
def FlowP (W : WX) (kp : List Nat) (D : Ends) (σ : St) (F Fr : Hp) (ts : Bag) : R Flow → Prop
  | .ok f ρ' => match f with
    | .nx => ∀ σ' F' H', Kept kp σ σ' → Sub F F' → GS Γ F' Fr H' σ' ρ' ts → D.nx σ' H'
    | .brk => ∀ σ' F' H', Kept kp σ σ' → Sub F F' → GS Γ F' Fr H' σ' ρ' ts → D.bk σ' H'
    | .ret o => ∀ v σ' F' H', Kept kp σ σ' → Sub F F' → GS Γ F' Fr H' σ' ρ' ((v, o) :: ts) → D.rt v H'
  | .exc x ds ρ' => ∀ cls dx σ' F' H', Kept kp σ σ' → Sub F F' → GS Γ F' Fr H' σ' ρ' ts → ExcAt Γ F' x ds cls dx → W cls dx σ' H'
  | .st => False
def tDS (W : WX) (kp : List Nat) (s : Stx) : TS := fun D σ H => ∃ ρ F Fr ts, GS Γ F Fr H σ ρ ts ∧ FlowP Γ W kp D σ F Fr ts (s ρ)
/-- J walks over ds -/
structure Wk (J : It) (F : Hp) (ds : List D) : Prop where
  go : ∀ i H, Sub F H → i < ds.length → J.go i H
  stop : ∀ i H, Sub F H → ds.length ≤ i → J.stop i H
  yld : ∀ i H x H' F1 Fr L its d, Sub F F1 → G Γ F1 Fr H L its → ds[i]? = some d → J.yld i H x H' → ∃ F2, Sub F1 F2 ∧ G Γ F2 Fr H' L ((x, .fz d) :: its)
def QI (σ : St) (Fr : Hp) (ts : Bag) (R' : It → Hp → Prop) : List D → Env → Hp → Hp → Prop := fun ds ρ' F' H' => ∀ J, GS Γ F' Fr H' σ ρ' ts → Wk Γ J F' ds → R' J H'
def tDI (W : WX) (it : Itx) : TI := fun σ H R' => ∃ ρ F Fr ts, GS Γ F Fr H σ ρ ts ∧ Post Γ W σ F Fr ts (QI Γ σ Fr ts R') (it ρ)
end
section
variable {X : Cx} {Γ : Wd} {W : WX} {e a b c : Expr}
abbrev DenE (X : Cx) (Γ : Wd) (W : WX) (e : Expr) (c : Ex) : Prop := PE X e (tD Γ W c)
abbrev DenT (X : Cx) (Γ : Wd) (W : WX) (e : Expr) (c : Tx) : Prop := PT X e (tDT Γ W c)
abbrev DenP (X : Cx) (Γ : Wd) (e : Expr) (c : Px) : Prop := PE X e (tDP Γ c)
abbrev DenA (X : Cx) (Γ : Wd) (W : WX) (es : List Expr) (cs : List Ex) : Prop := PA X es (tDA Γ W cs)
abbrev DenI (X : Cx) (Γ : Wd) (W : WX) (tg e : Expr) (c : Itx) : Prop := PI X tg e (tDI Γ W c)
abbrev DenS (X : Cx) (Γ : Wd) (W : WX) (kp : List Nat) (st : Stmt) (s : Stx) : Prop := PS X st (tDS Γ W kp s)
abbrev DenSs (X : Cx) (Γ : Wd) (W : WX) (kp : List Nat) (st : List Stmt) (s : Stx) : Prop := PSs X st (tDS Γ W kp s)

theorem pe_imp {t t' : TE} (h : PE X e t) (i : ∀ σ H Q, t' σ H Q → t σ H Q) : PE X e t' := ⟨fun pins s σ H Q I q => h.run pins s σ H Q I (i σ H Q q)⟩
theorem pt_imp {t t' : TT} (h : PT X e t) (i : ∀ σ H Q, t' σ H Q → t σ H Q) : PT X e t' := ⟨fun pins s σ H Q I q => h.run pins s σ H Q I (i σ H Q q)⟩
theorem pa_imp {es : List Expr} {t t' : TA} (h : PA X es t) (i : ∀ σ H Q, t' σ H Q → t σ H Q) : PA X es t' := ⟨fun pos pins s σ H Q I q => h.run pos pins s σ H Q I (i σ H Q q)⟩
theorem ps_imp {st : Stmt} {t t' : TS} (h : PS X st t) (i : ∀ D σ H, t' D σ H → t D σ H) : PS X st t' := ⟨fun pins s σ H D I q => h.run pins s σ H D I (i D σ H q)⟩
theorem pss_imp {st : List Stmt} {t t' : TS} (h : PSs X st t) (i : ∀ D σ H, t' D σ H → t D σ H) : PSs X st t' := ⟨fun pins s σ H D I q => h.run pins s σ H D I (i D σ H q)⟩
theorem pi_imp {tg : Expr} {t t' : TI} (h : PI X tg e t) (i : ∀ σ H R, t' σ H R → t σ H R) : PI X tg e t' := ⟨fun pins s σ H R I q => h.run pins s σ H R I (i σ H R q)⟩
theorem pe_alt {t u : TE} (h : PE X e t) (h' : PE X e u) : PE X e (fun σ H Q => t σ H Q ∨ u σ H Q) := ⟨fun pins s σ H Q I q => q.elim (h.run pins s σ H Q I) (h'.run pins s σ H Q I)⟩
theorem pi_alt {tg : Expr} {t u : TI} (h : PI X tg e t) (h' : PI X tg e u) : PI X tg e (fun σ H Q => t σ H Q ∨ u σ H Q) := ⟨fun pins s σ H Q I q => q.elim (h.run pins s σ H Q I) (h'.run pins s σ H Q I)⟩

variable {F F' Fr H H' : Hp} {σ : St} {ρ ρ' : Env} {ts : Bag} {v : V} {o : O}
theorem GS.sub (g : GS Γ F Fr H σ ρ ts) : Sub F H := g.g.sub
theorem GS.perm {us : Bag} (g : GS Γ F Fr H σ ρ ts) (p : ts.Perm us) : GS Γ F Fr H σ ρ us := ⟨g.ok, g.g.perm (p.append_right _)⟩
theorem GS.tail {p : V × O} (g : GS Γ F Fr H σ ρ (p :: ts)) : GS Γ F Fr H σ ρ ts := ⟨g.ok, G.tail (v := p.1) (o := p.2) g.g⟩
theorem GS.drop {us : Bag} (g : GS Γ F Fr H σ ρ (us ++ ts)) : GS Γ F Fr H σ ρ ts := ⟨g.ok, G.drop (ys := us) (by have := g.g; rwa [List.append_assoc] at this)⟩
theorem GS.view (g : GS Γ F Fr H σ ρ ((v, o) :: ts)) : RepF Γ H o.fr v := G.view g.g
theorem GS.fzF {d : D} (g : GS Γ F Fr H σ ρ ((v, .fz d) :: ts)) : RepF Γ F d v := G.fzF g.g
theorem GS.addF {d : D} (g : GS Γ F Fr H σ ρ ts) (r : RepF Γ F d v) : GS Γ F Fr H σ ρ ((v, .fz d) :: ts) := ⟨g.ok, G.addF g.g r⟩
theorem GS.freeze (g : GS Γ F Fr H σ ρ ((v, o) :: ts)) : ∃ F', Sub F F' ∧ GS Γ F' Fr H σ ρ ((v, .fz o.fr) :: ts) := by
  obtain ⟨F', s, g'⟩ := G.freeze g.g
  exact ⟨F', s, g.ok, g'⟩
/-- a slot's tree, taken -/
theorem GS.take {i : Nat} (g : GS Γ F Fr H σ ρ ts) (h : ρ[i]? = some (some o)) : ∃ v, σ[i]? = some (some v) ∧ GS Γ F Fr H σ (ρ.set i none) ((v, o) :: ts) := by
  obtain ⟨v, hv⟩ := g.ok.get h
  refine ⟨v, hv, g.ok.hid i, g.g.perm ?_⟩
  exact ((live_get g.ok h hv).append_left ts).trans List.perm_middle
theorem GS.takeAt {i : Nat} (g : GS Γ F Fr H σ ρ ts) (h : ρ[i]? = some (some o)) (hv : σ[i]? = some (some v)) : GS Γ F Fr H σ (ρ.set i none) ((v, o) :: ts) := by
  obtain ⟨v', hv', g'⟩ := g.take h
  rw [hv] at hv'; cases hv'; exact g'
/-- put back where its value still stands -/
theorem GS.put {i : Nat} (g : GS Γ F Fr H σ (ρ.set i none) ((v, o) :: ts)) (hi : i < ρ.length) (hv : σ[i]? = some (some v)) : GS Γ F Fr H σ (ρ.set i (some o)) ts := by
  have ok : SlotsOk σ (ρ.set i (some o)) := by
    have := SlotsOk.put (o := o) g.ok hv
    rwa [List.set_set] at this
  refine ⟨ok, g.g.perm ?_⟩
  have p := live_get (i := i) (o := o) ok (by simp [hi]) hv
  rw [List.set_set] at p
  exact (List.perm_middle (l₁ := ts)).symm.trans (p.symm.append_left ts)
/-- stored anew -/
theorem GS.store {i : Nat} (g : GS Γ F Fr H σ ρ ((v, o) :: ts)) (hi : i < ρ.length) : GS Γ F Fr H (σ.set i (some v)) (ρ.set i (some o)) ts := by
  have ok : SlotsOk (σ.set i (some v)) (ρ.set i (some o)) := g.ok.set
  have hσ : i < σ.length := by rw [g.ok.len]; exact hi
  refine ⟨ok, ?_⟩
  have p := live_get (i := i) (v := v) (o := o) ok (by simp [hi]) (by simp [hσ])
  rw [List.set_set, live_none_set] at p
  have g2 : G Γ F Fr H [] ((v, o) :: (ts ++ live σ (ρ.set i none))) := by
    rcases live_drop i g.ok with e | ⟨q, e⟩
    · rw [e]; exact g.g
    · have p2 : (((v, o) :: ts) ++ live σ ρ).Perm (q :: ((v, o) :: (ts ++ live σ (ρ.set i none)))) := by
        refine (e.append_left ((v, o) :: ts)).trans ?_
        exact List.perm_middle
      exact G.tail (v := q.1) (o := q.2) (g.g.perm p2)
  exact g2.perm ((List.perm_middle (l₁ := ts)).symm.trans (p.symm.append_left ts))
/-- forgotten -/
theorem GS.forget {i : Nat} (x : Option V) (g : GS Γ F Fr H σ ρ ts) : GS Γ F Fr H (σ.set i x) (ρ.set i none) ts := by
  refine ⟨g.ok.hid' i x, ?_⟩
  rw [live_none_set]
  rcases live_drop i g.ok with e | ⟨q, e⟩
  · rw [e]; exact g.g
  · exact G.tail (v := q.1) (o := q.2) (g.g.perm ((e.append_left ts).trans List.perm_middle))
theorem GS.forget1 {i : Nat} (g : GS Γ F Fr H σ ρ ts) : GS Γ F Fr H σ (ρ.set i none) ts := by
  refine ⟨g.ok.hid i, ?_⟩
  rcases live_drop i g.ok with e | ⟨q, e⟩
  · rw [e]; exact g.g
  · exact G.tail (v := q.1) (o := q.2) (g.g.perm ((e.append_left ts).trans List.perm_middle))

/-! ### a value made -/
theorem zipFz : ∀ {ds : List D} {vs : List V} {L : List Addr} {xs : Bag}, RepFs Γ F ds vs → G Γ F Fr H L xs → G Γ F Fr H L (vs.zip (ds.map .fz) ++ xs)
  | [], _, _, _, e, g => by rw [show _ = _ from e]; exact g
  | d :: r, _, _, _, ⟨v, vr, e, p, q⟩, g => by
    subst e
    exact (zipFz q g).addF p
theorem RepFs.len : ∀ {ds : List D} {vs : List V}, RepFs Γ F ds vs → vs.length = ds.length
  | [], _, e => by rw [show _ = _ from e]; rfl
  | _ :: _, _, ⟨_, _, e, _, q⟩ => by subst e; simp [RepFs.len q]
theorem RepFs.app : ∀ {ds es : List D} {vs ws : List V}, RepFs Γ F ds vs → RepFs Γ F es ws → RepFs Γ F (ds ++ es) (vs ++ ws)
  | [], _, _, _, e, q => by rw [show _ = _ from e]; exact q
  | _ :: _, _, _, _, ⟨v, vr, e, p, q⟩, r => by subst e; exact ⟨v, vr ++ _, rfl, p, q.app r⟩
theorem RepFs.get : ∀ {ds : List D} {vs : List V} {i : Nat} {d : D}, RepFs Γ F ds vs → ds[i]? = some d → ∃ v, vs[i]? = some v ∧ RepF Γ F d v
  | [], _, _, _, _, e => by simp at e
  | x :: _, _, 0, d, ⟨v, vr, e, p, _⟩, h => by subst e; simp at h; subst h; exact ⟨v, by simp, p⟩
  | _ :: _, _, i + 1, d, ⟨v, vr, e, _, q⟩, h => by subst e; simpa using RepFs.get (i := i) q (by simpa using h)
theorem RepFs.take : ∀ {ds : List D} {vs : List V} (n : Nat), RepFs Γ F ds vs → RepFs Γ F (ds.take n) (vs.take n)
  | [], _, n, e => by rw [show _ = _ from e]; simp [RepFs]
  | _ :: _, _, 0, _ => rfl
  | _ :: _, _, n + 1, ⟨v, vr, e, p, q⟩ => by subst e; exact ⟨v, vr.take n, rfl, p, q.take n⟩
theorem RepFs.dropN : ∀ {ds : List D} {vs : List V} (n : Nat), RepFs Γ F ds vs → RepFs Γ F (ds.drop n) (vs.drop n)
  | [], _, n, e => by rw [show _ = _ from e]; simp [RepFs]
  | _ :: _, _, 0, r => r
  | _ :: _, _, n + 1, ⟨v, vr, e, p, q⟩ => by subst e; exact q.dropN n
theorem RepFs.rev {ds : List D} {vs : List V} (r : RepFs Γ F ds vs) : RepFs Γ F ds.reverse vs.reverse := by
  induction ds generalizing vs with
  | nil => rw [show _ = _ from r]; rfl
  | cons d t ih =>
    obtain ⟨v, vr, e, p, q⟩ := r
    subst e
    rw [List.reverse_cons, List.reverse_cons]
    exact (ih q).app ⟨v, [], rfl, p, rfl⟩
theorem G.mkL {ds : List D} {vs : List V} {L : List Addr} {xs : Bag} {p : Addr} (g : G Γ F Fr H L xs) (r : RepFs Γ F ds vs) (hp : H p = none) : G Γ F Fr (upd H p (.lst vs)) L ((.ref p, .lst (ds.map .fz)) :: xs) :=
  G.closeL (zipFz r (g.new hp)) upd_same (by rw [RepFs.len r]; simp)
theorem G.mkT {ds : List D} {vs : List V} {L : List Addr} {xs : Bag} {p : Addr} (g : G Γ F Fr H L xs) (r : RepFs Γ F ds vs) (hp : H p = none) : ∃ F', Sub F F' ∧ G Γ F' Fr (upd H p (.tup vs)) L ((.ref p, .fz (.tup ds)) :: xs) :=
  ⟨_, g.newSub hp, (g.newF hp).addF ⟨p, vs, rfl, upd_same, RepFs.mono (g.newSub hp) r⟩⟩
theorem G.mkLO {os : List O} {vs : List V} {L : List Addr} {xs : Bag} {p : Addr} (g : G Γ F Fr H L (vs.zip os ++ xs)) (l : vs.length = os.length) (hp : H p = none) : G Γ F Fr (upd H p (.lst vs)) L ((.ref p, .lst os) :: xs) :=
  G.closeL (g.new hp) upd_same l

theorem Post.mono {α : Type} {Q Q' : α → Env → Hp → Hp → Prop} {r : R α} (m : Post Γ W σ F Fr ts Q r) (h : ∀ o ρ F' H', Sub F F' → Q o ρ F' H' → Q' o ρ F' H') : Post Γ W σ F Fr ts Q' r := by
  cases r with
  | ok o ρ' => exact fun F' H' s => h _ _ _ _ s (m F' H' s)
  | exc x ds ρ' => exact m
  | st => exact m
theorem Post.monoE {α : Type} {Q Q' : α → Env → Hp → Hp → Prop} {r : R α} (m : Post Γ W σ F Fr ts Q r) (h : ∀ o ρ F' H', r = .ok o ρ → Sub F F' → Q o ρ F' H' → Q' o ρ F' H') : Post Γ W σ F Fr ts Q' r := by
  cases r with
  | ok o ρ' => exact fun F' H' s => h _ _ _ _ rfl s (m F' H' s)
  | exc x ds ρ' => exact m
  | st => exact m
theorem Post.up {α : Type} {Q : α → Env → Hp → Hp → Prop} {r : R α} (s : Sub F F') (m : Post Γ W σ F Fr ts Q r) : Post Γ W σ F' Fr ts Q r := by
  cases r with
  | ok o ρ' => exact fun F2 H' s' => m F2 H' (s.trans s')
  | exc x ds ρ' => exact fun c d F2 H' s' => m c d F2 H' (s.trans s')
  | st => exact m
/-- one thing after another: us are what stands on the way -/
theorem Post.bind {α β : Type} {Q : β → Env → Hp → Hp → Prop} {r : R α} {k : α → Env → R β} (us : Bag) (m : Post Γ W σ F Fr ts Q (r.bind k)) :
    Post Γ W σ F Fr (us ++ ts) (fun o ρ F' _ => Post Γ W σ F' Fr ts Q (k o ρ)) r := by
  cases r with
  | ok o ρ' => exact fun F' H' s => Post.up s m
  | exc x ds ρ' => exact fun c d F' H' s g => m c d F' H' s g.drop
  | st => exact m
theorem Post.bind0 {α β : Type} {Q : β → Env → Hp → Hp → Prop} {r : R α} {k : α → Env → R β} (m : Post Γ W σ F Fr ts Q (r.bind k)) :
    Post Γ W σ F Fr ts (fun o ρ F' _ => Post Γ W σ F' Fr ts Q (k o ρ)) r := Post.bind [] m
theorem Post.opt {α : Type} {Q : α → Env → Hp → Hp → Prop} {x : Option α} (m : Post Γ W σ F Fr ts Q (ofOpt x ρ)) : ∃ a, x = some a ∧ ∀ F' H', Sub F F' → Q a ρ F' H' := by
  cases x with
  | none => exact False.elim m
  | some a => exact ⟨a, rfl, m⟩
end
end FA
/-! FAop: the operations upon values. -/
namespace FA
open PySem L2

theorem line_eq : line = sizeLine := by rw [sizeLine_eq]; rfl
theorem Str'_app (a b : List Nat) : Str' a ++ Str' b = Str' (a ++ b) := by
  show Str.append (Str' a) (Str' b) = Str' (a ++ b)
  unfold Str.append Str'
  simp
theorem Str'_len (a : List Nat) : (Str' a).length = a.length := by simp [Str', Str.length]
theorem Str'_inj {a b : List Nat} : Str' a = Str' b ↔ a = b := by
  constructor
  · intro h
    have : (Str' a).cps.toList = (Str' b).cps.toList := by rw [h]
    simpa [Str'] using this
  · rintro rfl; rfl

section
variable {X : Cx} {Γ : Wd} {F F' Fr H H' : Hp} {L : List Addr} {its : Bag} {v w : V}

/-- an operation on two values does what op says -/
def Op2S (X : Cx) (Γ : Wd) (f : Value → Value → PySem.Sem Value) (op : Op2) : Prop :=
  ∃ r : R2, OpR X f r ∧ ∀ {F Fr H : Hp} {L : List Addr} {its : Bag} {v1 v2 : V} {o1 o2 o : O} {Q : VK}, G Γ F Fr H L ((v2, o2) :: (v1, o1) :: its) → op o1.fr o2.fr = some o →
    (∀ v F' H', Sub F F' → G Γ F' Fr H' L ((v, o) :: its) → Q v H') → r v1 v2 H Q
/-- a one-place one: a call of a built-in with one argument -/
def Op1C (X : Cx) (Γ : Wd) (f : Value) (op : Op1) : Prop :=
  ∃ r, CallR X f r ∧ ∀ {F Fr H : Hp} {L : List Addr} {its : Bag} {v1 : V} {o1 o : O} {Q : VK}, G Γ F Fr H L ((v1, o1) :: its) → op o1.fr = some o →
    (∀ v F' H', Sub F F' → G Γ F' Fr H' L ((v, o) :: its) → Q v H') → r [v1] H Q

theorem G.view1 {v1 v2 : V} {o1 o2 : O} (g : G Γ F Fr H L ((v2, o2) :: (v1, o1) :: its)) : RepF Γ H o1.fr v1 := G.view (G.tail g)
theorem G.tail2 {v1 v2 : V} {o1 o2 : O} (g : G Γ F Fr H L ((v2, o2) :: (v1, o1) :: its)) : G Γ F Fr H L its := G.tail (G.tail g)
/-- both frozen -/
theorem G.freeze2 {v1 v2 : V} {o1 o2 : O} (g : G Γ F Fr H L ((v2, o2) :: (v1, o1) :: its)) : ∃ F', Sub F F' ∧ G Γ F' Fr H L its ∧ RepF Γ F' o1.fr v1 ∧ RepF Γ F' o2.fr v2 := by
  obtain ⟨F1, s1, g1⟩ := G.freeze g
  have r2 := G.fzF g1
  obtain ⟨F2, s2, g2⟩ := G.freeze (G.tail g1)
  exact ⟨F2, s1.trans s2, G.tail g2, G.fzF g2, RepF.mono s2 r2⟩
theorem G.freeze1 {v1 : V} {o1 : O} (g : G Γ F Fr H L ((v1, o1) :: its)) : ∃ F', Sub F F' ∧ G Γ F' Fr H L its ∧ RepF Γ F' o1.fr v1 := by
  obtain ⟨F1, s1, g1⟩ := G.freeze g
  exact ⟨F1, s1, G.tail g1, G.fzF g1⟩

/-! ### data for the library's == -/
mutual
def pyD : D → PyData
  | .non => .none
  | .bl b => .bool b
  | .int i => .int i
  | .str s => .str (Str' s)
  | .lst ds => .list (pyDs ds)
  | .tup ds => .tuple (pyDs ds)
  | .dic _ => .none
  | .ins _ _ => .none
  | .scr _ => .none
def pyDs : List D → List PyData
  | [] => []
  | d :: r => pyD d :: pyDs r
end
theorem pyDs_map : ∀ ds : List D, pyDs ds = ds.map pyD
  | [] => rfl
  | d :: r => by simp [pyDs, pyDs_map r]
theorem pyD_lst (ds : List D) : pyD (.lst ds) = .list (ds.map pyD) := by simp [pyD, pyDs_map]
theorem pyD_tup (ds : List D) : pyD (.tup ds) = .tuple (ds.map pyD) := by simp [pyD, pyDs_map]

theorem dp_of : ∀ (n : Nat) {d : D} {v : V}, plainN n d = true → RepF Γ H d v → Dp X.K H v (pyD d) := by
  intro n
  induction n with
  | zero =>
    intro d v hp r
    cases d with
    | non => rw [show v = _ from r]; unfold pyD; exact .non
    | bl b => rw [show v = _ from r]; unfold pyD; exact .bl b
    | int i => rw [show v = _ from r]; unfold pyD; exact .int i
    | str s => rw [show v = _ from r]; unfold pyD; exact .str _
    | _ => simp [plainN] at hp
  | succ n ih =>
    have all : ∀ {ds : List D} {vs : List V}, (∀ d ∈ ds, plainN n d = true) → RepFs Γ H ds vs → DpAll X.K H vs (ds.map pyD) := by
      intro ds
      induction ds with
      | nil => intro vs _ r; rw [show vs = _ from r]; exact .nil
      | cons d t iht =>
        rintro vs hp ⟨v, vr, rfl, p, q⟩
        exact .cons (ih (hp d (.head _)) p) (iht (fun x hx => hp x (.tail _ hx)) q)
    intro d v hp r
    cases d with
    | non => rw [show v = _ from r]; unfold pyD; exact .non
    | bl b => rw [show v = _ from r]; unfold pyD; exact .bl b
    | int i => rw [show v = _ from r]; unfold pyD; exact .int i
    | str s => rw [show v = _ from r]; unfold pyD; exact .str _
    | lst ds =>
      obtain ⟨a, vs, rfl, e, q⟩ := r
      rw [pyD_lst]
      exact .lst (.inl (.inl e)) (all (fun d hd => by
        have : (ds.all (plainN n)) = true := by simpa [plainN] using hp
        exact List.all_eq_true.mp this d hd) q)
    | tup ds =>
      obtain ⟨a, vs, rfl, e, q⟩ := r
      rw [pyD_tup]
      exact .tup (.inl (.inl e)) (all (fun d hd => by
        have : (ds.all (plainN n)) = true := by simpa [plainN] using hp
        exact List.all_eq_true.mp this d hd) q)
    | _ => simp [plainN] at hp
theorem shaped_all {n : Nat} {ds : List PyData} (h : ∀ d ∈ ds, d.canLay0 = true ∧ d.depth ≤ n) : PyData.canLayAll0 ds = true ∧ PyData.depthAll ds ≤ n := by
  induction ds with
  | nil => exact ⟨rfl, Nat.zero_le _⟩
  | cons d t ih =>
    have h1 := h d (.head _)
    have h2 := ih fun x hx => h x (.tail _ hx)
    refine ⟨by simp [PyData.canLayAll0, h1.1, h2.1], ?_⟩
    simp only [PyData.depthAll]
    omega
theorem shaped_of (n : Nat) {d : D} (hp : plainN n d = true) : (pyD d).canLay0 = true ∧ (pyD d).depth ≤ n := by
  induction n generalizing d with
  | zero =>
    cases d with
    | str s =>
      refine ⟨?_, by simp [pyD, PyData.depth]⟩
      simp only [pyD, PyData.canLay0, PyData.strOk, Str']
      simpa [plainN, strOkD] using hp
    | _ => first | (simp [plainN] at hp; done) | simp [pyD, PyData.canLay0, PyData.depth]
  | succ n ih =>
    cases d with
    | str s =>
      refine ⟨?_, by simp [pyD, PyData.depth]⟩
      simp only [pyD, PyData.canLay0, PyData.strOk, Str']
      simpa [plainN, strOkD] using hp
    | lst ds =>
      have : (ds.all (plainN n)) = true := by simpa [plainN] using hp
      have := shaped_all (n := n) (ds := ds.map pyD) fun d hd => by
        obtain ⟨x, hx, rfl⟩ := List.mem_map.mp hd
        exact ih (List.all_eq_true.mp this x hx)
      rw [pyD_lst]
      refine ⟨by simp [PyData.canLay0, this.1], ?_⟩
      simp only [PyData.depth]; omega
    | tup ds =>
      have : (ds.all (plainN n)) = true := by simpa [plainN] using hp
      have := shaped_all (n := n) (ds := ds.map pyD) fun d hd => by
        obtain ⟨x, hx, rfl⟩ := List.mem_map.mp hd
        exact ih (List.all_eq_true.mp this x hx)
      rw [pyD_tup]
      refine ⟨by simp [PyData.canLay0, this.1], ?_⟩
      simp only [PyData.depth]; omega
    | _ => first | (simp [plainN] at hp; done) | simp [pyD, PyData.canLay0, PyData.depth]
theorem shaped60 {d : D} (hp : plain d = true) : SeqAt.shaped (pyD d) = true := by
  obtain ⟨a, b⟩ := shaped_of 60 hp
  simp only [SeqAt.shaped, a, Bool.true_and, decide_eq_true_eq]
  omega
theorem shaped60l {ds : List D} (hp : plains ds = true) : SeqAt.shaped (.list (ds.map pyD)) = true := by
  have h : plainN 61 (.lst ds) = true := hp
  obtain ⟨a, b⟩ := shaped_of 61 h
  rw [pyD_lst] at a b
  simp only [SeqAt.shaped, a, Bool.true_and, decide_eq_true_eq]
  omega
theorem dpl_of {a : Addr} {vs : List V} {ds : List D} (hp : plains ds = true) (h : H a = some (.lst vs)) (r : RepFs Γ H ds vs) : Dp X.K H (.ref a) (.list (ds.map pyD)) := by
  have := dp_of (X := X) (Γ := Γ) (H := H) 61 (d := .lst ds) (v := .ref a) hp ⟨a, vs, rfl, h, r⟩
  rwa [pyD_lst] at this
theorem eqv_py (n : Nat) : ∀ {a b : D}, plainN n a = true → plainN n b = true → PyData.eqv (pyD a) (pyD b) = eqv a b := by
  induction n with
  | zero =>
    intro a b ha hb
    cases a <;> cases b <;> first
      | (simp [plainN] at ha; done) | (simp [plainN] at hb; done)
      | (simp [pyD, PyData.eqv, eqv, Str'_inj]; done)
      | (simp only [pyD, PyData.eqv, eqv]; rw [Bool.eq_iff_iff]; simp [Str'_inj])
  | succ n ih =>
    have all : ∀ {x y : List D}, (∀ d ∈ x, plainN n d = true) → (∀ d ∈ y, plainN n d = true) → PyData.eqvAll (x.map pyD) (y.map pyD) = eqvs x y := by
      intro x
      induction x with
      | nil => intro y _ _; cases y <;> simp [PyData.eqvAll, eqvs]
      | cons d t iht =>
        intro y hx hy
        cases y with
        | nil => simp [PyData.eqvAll, eqvs]
        | cons e u =>
          simp only [List.map_cons, PyData.eqvAll, eqvs]
          rw [ih (hx d (.head _)) (hy e (.head _)), iht (fun z hz => hx z (.tail _ hz)) (fun z hz => hy z (.tail _ hz))]
    intro a b ha hb
    cases a <;> cases b <;> first
      | (simp [plainN] at ha; done) | (simp [plainN] at hb; done)
      | (rw [pyD_lst, pyD_lst]; simp only [PyData.eqv, eqv]; exact all (by simpa [plainN] using ha) (by simpa [plainN] using hb))
      | (rw [pyD_tup, pyD_tup]; simp only [PyData.eqv, eqv]; exact all (by simpa [plainN] using ha) (by simpa [plainN] using hb))
      | (simp [pyD, PyData.eqv, eqv, Str'_inj]; done)
      | (simp only [pyD, PyData.eqv, eqv]; rw [Bool.eq_iff_iff]; simp [Str'_inj])
def vD : D → V
  | .bl b => .bl b
  | .int i => .int i
  | .str s => .str (Str' s)
  | _ => .non
theorem flat_v {d : D} (h : flatD d = true) (r : RepF Γ H d v) : v = vD d ∧ flatV v = true := by
  cases d <;> first | (simp [flatD] at h; done) | (rw [show v = _ from r]; exact ⟨rfl, rfl⟩)
theorem eqV_v {a b : D} (ha : flatD a = true) (hb : flatD b = true) : eqV (vD a) (vD b) = eqv a b := by
  cases a <;> cases b <;> first
    | (simp [flatD] at ha; done) | (simp [flatD] at hb; done)
    | (simp [vD, eqV, eqv]; done)
    | (simp only [vD, eqV, eqv]; rw [Bool.eq_iff_iff]; simp [Str'_inj])

theorem s_eq (hu : X.A.units + 64 < cLine) : Op2S X Γ (compareOp .Eq) opEq := by
  refine ⟨_, op_eq.or (op_eqD hu), fun {F Fr H L its v1 v2 o1 o2 o Q} g e k => ?_⟩
  unfold opEq at e
  split at e
  · rename_i hc
    cases e
    have r1 := G.view1 g
    have r2 := G.view g
    have fin : ∀ b, b = eqv o1.fr o2.fr → Q (.bl b) H := fun b hb => k _ F H (Sub.refl _) ((G.tail2 g).addF (d := .bl _) (by rw [hb]; rfl))
    unfold eqOk at hc
    by_cases hs : flatD o1.fr = true ∧ flatD o2.fr = true ∧ scal (vD o1.fr) (vD o2.fr) = true
    · left
      obtain ⟨h1, h2, h3⟩ := hs
      obtain ⟨e1, _⟩ := flat_v h1 r1
      obtain ⟨e2, _⟩ := flat_v h2 r2
      subst e1 e2
      refine ⟨h3, fin _ ?_⟩
      generalize o1.fr = a at *
      generalize o2.fr = b at *
      cases a <;> cases b <;> first
        | (simp [flatD] at h1; done) | (simp [flatD] at h2; done) | (simp [scal, vD] at h3; done)
        | (simp [vD, eqv]; done)
        | (simp only [vD, eqv]; rw [Bool.eq_iff_iff]; simp [Str'_inj])
    · right
      have hp : plain o1.fr = true ∧ plain o2.fr = true := by
        rcases Bool.or_eq_true_iff.mp hc with h | h
        · obtain ⟨h1, h2⟩ := Bool.and_eq_true_iff.mp h
          have h3 : scal (vD o1.fr) (vD o2.fr) ≠ true := fun z => hs ⟨h1, h2, z⟩
          generalize o1.fr = a at *
          generalize o2.fr = b at *
          cases a <;> cases b <;> first
            | (simp [flatD] at h1; done) | (simp [flatD] at h2; done) | (exact absurd rfl h3) | (exact ⟨rfl, rfl⟩)
        · exact Bool.and_eq_true_iff.mp h
      exact ⟨_, _, dp_of 60 hp.1 r1, dp_of 60 hp.2 r2, shaped60 hp.1, shaped60 hp.2, fin _ (eqv_py 60 hp.1 hp.2)⟩
  · cases e
theorem s_ne (hu : X.A.units + 64 < cLine) : Op2S X Γ (compareOp .NotEq) opNe := by
  refine ⟨_, op_ne.or (op_neD hu), fun {F Fr H L its v1 v2 o1 o2 o Q} g e k => ?_⟩
  unfold opNe at e
  split at e
  · rename_i hc
    cases e
    have r1 := G.view1 g
    have r2 := G.view g
    have fin : ∀ b, b = eqv o1.fr o2.fr → Q (.bl (!b)) H := fun b hb => k _ F H (Sub.refl _) ((G.tail2 g).addF (d := .bl _) (by rw [hb]; rfl))
    unfold eqOk at hc
    by_cases hs : flatD o1.fr = true ∧ flatD o2.fr = true ∧ scal (vD o1.fr) (vD o2.fr) = true
    · left
      obtain ⟨h1, h2, h3⟩ := hs
      obtain ⟨e1, _⟩ := flat_v h1 r1
      obtain ⟨e2, _⟩ := flat_v h2 r2
      subst e1 e2
      refine ⟨h3, fin _ ?_⟩
      generalize o1.fr = a at *
      generalize o2.fr = b at *
      cases a <;> cases b <;> first
        | (simp [flatD] at h1; done) | (simp [flatD] at h2; done) | (simp [scal, vD] at h3; done)
        | (simp [vD, eqv]; done)
        | (simp only [vD, eqv]; rw [Bool.eq_iff_iff]; simp [Str'_inj])
    · right
      have hp : plain o1.fr = true ∧ plain o2.fr = true := by
        rcases Bool.or_eq_true_iff.mp hc with h | h
        · obtain ⟨h1, h2⟩ := Bool.and_eq_true_iff.mp h
          have h3 : scal (vD o1.fr) (vD o2.fr) ≠ true := fun z => hs ⟨h1, h2, z⟩
          generalize o1.fr = a at *
          generalize o2.fr = b at *
          cases a <;> cases b <;> first
            | (simp [flatD] at h1; done) | (simp [flatD] at h2; done) | (exact absurd rfl h3) | (exact ⟨rfl, rfl⟩)
        · exact Bool.and_eq_true_iff.mp h
      exact ⟨_, _, dp_of 60 hp.1 r1, dp_of 60 hp.2 r2, shaped60 hp.1, shaped60 hp.2, fin _ (eqv_py 60 hp.1 hp.2)⟩
  · cases e
end
end FA
namespace FA
open PySem L2
section
variable {X : Cx} {Γ : Wd} {F F' Fr H H' : Hp} {L : List Addr} {its : Bag} {v w : V}
/-- two ints to a value -/
theorem s_ints {f : Value → Value → PySem.Sem Value} {C : Int → Int → Prop} {g : Int → Int → V} {op : Op2} (ho : OpR X f (rI C g))
    (hop : ∀ a b o, op a b = some o → ∃ i j d, a = .int i ∧ b = .int j ∧ C i j ∧ o = .fz d ∧ ∀ F, RepF Γ F d (g i j)) : Op2S X Γ f op := by
  refine ⟨_, ho, fun {F Fr H L its v1 v2 o1 o2 o Q} gg e k => ?_⟩
  obtain ⟨i, j, d, e1, e2, c, rfl, r⟩ := hop _ _ _ e
  have r1 := G.view1 gg
  have r2 := G.view gg
  rw [e1] at r1
  rw [e2] at r2
  exact ⟨i, j, r1, r2, c, k _ F H (Sub.refl _) ((G.tail2 gg).addF (r F))⟩
theorem rI0_of {g : Int → Int → V} {f : Value → Value → PySem.Sem Value} (h : OpR X f (rI0 g)) : OpR X f (rI (fun _ _ => True) g) :=
  fun pins s σ H x y v u Q I rx ry ⟨i, j, e1, e2, _, q⟩ => h pins s σ H x y v u Q I rx ry ⟨i, j, e1, e2, q⟩
theorem s_sub : Op2S X Γ (binaryOp .Sub) opSub := s_ints (rI0_of op_sub) fun a b o e => by
  cases a <;> cases b <;> simp [opSub] at e
  subst e
  exact ⟨_, _, _, rfl, rfl, trivial, rfl, fun _ => rfl⟩
theorem s_mod : Op2S X Γ (binaryOp .Mod) opMod := s_ints op_mod fun a b o e => by
  cases a <;> cases b <;> simp [opMod] at e
  obtain ⟨h, e⟩ := e
  subst e
  exact ⟨_, _, _, rfl, rfl, h, rfl, fun _ => rfl⟩
theorem s_fdiv : Op2S X Γ (binaryOp .FloorDiv) opFDiv := s_ints op_fdiv fun a b o e => by
  cases a <;> cases b <;> simp [opFDiv] at e
  obtain ⟨h, e⟩ := e
  subst e
  exact ⟨_, _, _, rfl, rfl, h, rfl, fun _ => rfl⟩
theorem s_pow : Op2S X Γ (binaryOp .Pow) opPow := s_ints op_pow fun a b o e => by
  cases a <;> cases b <;> simp [opPow] at e
  obtain ⟨h, e⟩ := e
  subst e
  refine ⟨_, _, _, rfl, rfl, ⟨h.1, h.2.1, ?_⟩, rfl, fun _ => rfl⟩
  have := h.2.2
  simp [smallI] at this
  omega
theorem s_gt : Op2S X Γ (compareOp .Gt) opGt := s_ints (rI0_of op_gt) fun a b o e => by
  cases a <;> cases b <;> simp [opGt] at e
  subst e
  exact ⟨_, _, _, rfl, rfl, trivial, rfl, fun _ => rfl⟩
theorem s_le : Op2S X Γ (compareOp .LtE) opLe := s_ints (rI0_of op_le) fun a b o e => by
  cases a <;> cases b <;> simp [opLe] at e
  subst e
  exact ⟨_, _, _, rfl, rfl, trivial, rfl, fun _ => rfl⟩
theorem s_ge : Op2S X Γ (compareOp .GtE) opGe := s_ints (rI0_of op_ge) fun a b o e => by
  cases a <;> cases b <;> simp [opGe] at e
  subst e
  exact ⟨_, _, _, rfl, rfl, trivial, rfl, fun _ => rfl⟩
theorem s_add : Op2S X Γ (binaryOp .Add) opAdd := by
  refine ⟨_, (op_add.or op_add_str).or (op_cat.or op_catA), fun {F Fr H L its v1 v2 o1 o2 o Q} g e k => ?_⟩
  have r1 := G.view1 g
  have r2 := G.view g
  obtain ⟨F1, s1, g1, p1, p2⟩ := G.freeze2 g
  generalize o1.fr = a at *
  generalize o2.fr = b at *
  cases a <;> cases b <;> simp [opAdd] at e
  · subst e
    exact .inl (.inl ⟨_, _, r1, r2, k _ F H (Sub.refl _) ((G.tail2 g).addF (d := .int _) rfl)⟩)
  · obtain ⟨h, e⟩ := e
    subst e
    refine .inl (.inr ⟨_, _, r1, r2, ?_, ?_⟩)
    · rw [Str'_len, Str'_len, ← line_eq]; exact h
    · rw [Str'_app]
      exact k _ F H (Sub.refl _) ((G.tail2 g).addF (d := .str _) rfl)
  · obtain ⟨h, e⟩ := e
    subst e
    obtain ⟨a1, vs1, rfl, e1, q1⟩ := p1
    obtain ⟨a2, vs2, rfl, e2, q2⟩ := p2
    refine .inr (.inl ⟨a1, a2, vs1, vs2, rfl, rfl, g1.sub _ _ e1, g1.sub _ _ e2, ?_, fun p hp => ?_⟩)
    · rw [q1.len, q2.len, ← line_eq]; exact h
    · have := G.mkL (p := p) g1 (q1.app q2) hp
      rw [List.map_append] at this
      exact k _ _ _ s1 this
  · obtain ⟨h, e⟩ := e
    subst e
    obtain ⟨a1, vs1, rfl, e1, q1⟩ := p1
    obtain ⟨a2, vs2, rfl, e2, q2⟩ := p2
    have l1 := q1.len
    have l2 := q2.len
    refine .inr (.inr ⟨a1, a2, vs1, vs2, rfl, rfl, .inl (.inl (g1.sub _ _ e1)), .inl (.inl (g1.sub _ _ e2)), ?_, fun z => ?_, fun z z' => ?_, fun z z' p hp => ?_⟩)
    · rw [l1, l2, ← line_eq]; exact h
    · have : ‹List D› = [] ∨ True := .inr trivial
      subst z
      have hn := List.length_eq_zero_iff.mp (show List.length _ = 0 from l1.symm)
      subst hn
      exact k _ F1 H s1 (g1.addF (d := .tup _) ⟨a2, vs2, rfl, e2, q2⟩)
    · subst z'
      have hn := List.length_eq_zero_iff.mp (show List.length _ = 0 from l2.symm)
      subst hn
      rw [List.append_nil] at k
      exact k _ F1 H s1 (g1.addF (d := .tup _) ⟨a1, vs1, rfl, e1, q1⟩)
    · obtain ⟨F2, s2, g2⟩ := G.mkT (p := p) g1 (q1.app q2) hp
      exact k _ _ _ (s1.trans s2) g2
/-! ### < -/
theorem alike_py : ∀ {a b : D}, alikeD a b = true → W.alike (pyD a) (pyD b) = true
  | .lst a, .lst b, h => by
    rw [pyD_lst, pyD_lst]; simp only [W.alike, ← pyDs_map]; exact alikes_py h
  | .tup a, .tup b, h => by
    rw [pyD_tup, pyD_tup]; simp only [W.alike, ← pyDs_map]; exact alikes_py h
  | .non, .non, _ => rfl
  | .bl _, .bl _, _ => rfl
  | .int _, .int _, _ => rfl
  | .str _, .str _, _ => rfl
where alikes_py : ∀ {a b : List D}, alikeDs a b = true → W.alikeAll (pyDs a) (pyDs b) = true
  | [], [], _ => by simp [pyDs, W.alikeAll]
  | [], _ :: _, _ => by simp [pyDs, W.alikeAll]
  | _ :: _, [], _ => by simp [pyDs, W.alikeAll]
  | a :: r, b :: s, h => by
    have h' : alikeD a b = true ∧ alikeDs r s = true := by simpa [alikeDs] using h
    simp [pyDs, W.alikeAll, alike_py h'.1, alikes_py h'.2]

theorem lt_py (n : Nat) : ∀ {a b : D}, plainN n a = true → plainN n b = true → alikeD a b = true → W.dataLt (pyD a) (pyD b) = ltB a b := by
  induction n with
  | zero =>
    intro a b ha hb h
    cases a <;> cases b <;> first
      | (simp [plainN] at ha; done) | (simp [plainN] at hb; done) | (simp [alikeD] at h; done)
      | (simp only [pyD, W.dataLt_int, ltB]; done)
      | (simp only [pyD, W.dataLt_str, ltB]; rfl)
      | (rename_i x y; cases x <;> cases y <;> rfl)
      | rfl
  | succ n ih =>
    have all : ∀ {x y : List D}, (∀ d ∈ x, plainN n d = true) → (∀ d ∈ y, plainN n d = true) → alikeDs x y = true →
        PyProof.Rows.lexLt PyProof.Rows.itemOrd (W.keyToksAll (x.map pyD)) (W.keyToksAll (y.map pyD)) = ltBs x y := by
      intro x
      induction x with
      | nil =>
        intro y _ _ _
        cases y with
        | nil => rfl
        | cons e u => rfl
      | cons d t iht =>
        intro y hx hy h
        cases y with
        | nil => rfl
        | cons e u =>
          have h' : alikeD d e = true ∧ alikeDs t u = true := by simpa [alikeDs] using h
          simp only [List.map_cons, ltBs]
          have q := eqv_py n (hx d (.head _)) (hy e (.head _))
          cases z : eqv d e with
          | true =>
            rw [z] at q
            rw [W.dataLt_all_yes (alike_py h'.1) q, iht (fun w hw => hx w (.tail _ hw)) (fun w hw => hy w (.tail _ hw)) h'.2]
            simp
          | false =>
            rw [z] at q
            rw [W.dataLt_all_no (alike_py h'.1) q, ih (hx d (.head _)) (hy e (.head _)) h'.1]
            simp
    intro a b ha hb h
    cases a <;> cases b <;> first
      | (simp [plainN] at ha; done) | (simp [plainN] at hb; done) | (simp [alikeD] at h; done)
      | (simp only [pyD, W.dataLt_int, ltB]; done)
      | (simp only [pyD, W.dataLt_str, ltB]; rfl)
      | (rw [pyD_lst, pyD_lst, W.dataLt_list]; simp only [ltB]; exact all (by simpa [plainN] using ha) (by simpa [plainN] using hb) (by simpa [alikeD] using h))
      | (rw [pyD_tup, pyD_tup, W.dataLt_tuple]; simp only [ltB]; exact all (by simpa [plainN] using ha) (by simpa [plainN] using hb) (by simpa [alikeD] using h))
      | (rename_i x y; cases x <;> cases y <;> rfl)
      | rfl
def rLtD (K : PySem.W.Frag) : R2 := fun x y H Q => ∃ d e, Dp K H x d ∧ Dp K H y e ∧ SeqAt.shaped d = true ∧ W.alike d e = true ∧ d ≠ .none ∧ Q (.bl (W.dataLt d e)) H
theorem op_ltD (hu : X.A.units + 64 < cLine) : OpR X (compareOp .Lt) (rLtD X.K) := by
  intro pins s σ H x y v u Q I rx ry h
  obtain ⟨d, e, h1, h2, h3, h4, h5, q⟩ := h
  obtain ⟨as, ra⟩ := Dp.reads I d x v h1 rx
  obtain ⟨bs, rb⟩ := Dp.reads I e y u h2 ry
  have hd := SeqAt.depth_of_shaped h3
  refine W.rcLt_alike d e X.A s v u as bs ra rb h4 h5 ?_ X.prog X.w _ _ ⟨.bl _, H, I, rfl, q⟩
  have : min d.depth e.depth ≤ d.depth := Nat.min_le_left _ _
  omega
/-- a comparison of what is only looked at -/
def Op2B (X : Cx) (Γ : Wd) (f : Value → Value → PySem.Sem Value) (op : Op2) : Prop :=
  ∃ r : R2, OpR X f r ∧ ∀ {H : Hp} {v1 v2 : V} {a b : D} {o : O} {Q : VK}, RepF Γ H a v1 → RepF Γ H b v2 → op a b = some o → (∀ x, o = boolO x → Q (.bl x) H) → r v1 v2 H Q
theorem Op2B.toS {f : Value → Value → PySem.Sem Value} {op : Op2} (h : Op2B X Γ f op) : Op2S X Γ f op := by
  obtain ⟨r, hr, k⟩ := h
  exact ⟨r, hr, fun {F Fr H L its v1 v2 o1 o2 o Q} g e q => k (G.view1 g) (G.view g) e fun x hx => q _ F H (Sub.refl _) ((G.tail2 g).addF (d := .bl x) rfl |> fun z => by rw [hx]; exact z)⟩
theorem b_lt (hu : X.A.units + 64 < cLine) : Op2B X Γ (compareOp .Lt) opLt := by
  refine ⟨_, op_lt.or (op_ltD hu), fun {H v1 v2 a b o Q} r1 r2 e fin => ?_⟩
  by_cases hi : (∃ i, a = .int i) ∧ ∃ j, b = .int j
  · obtain ⟨⟨i, rfl⟩, j, rfl⟩ := hi
    simp only [opLt, Option.some.injEq] at e
    exact .inl ⟨i, j, r1, r2, fin _ e.symm⟩
  · have e' : (ltD a b).map boolO = some o := by
      cases a <;> cases b <;> first | exact e | exact absurd ⟨⟨_, rfl⟩, _, rfl⟩ hi
    obtain ⟨x, hx, rfl⟩ := Option.map_eq_some_iff.mp e'
    unfold ltD at hx
    split at hx
    · rename_i hc
      cases hx
      have hc' : ((plain a = true ∧ plain b = true) ∧ alikeD a b = true) ∧ notNon a = true := by simpa [ltOk] using hc
      obtain ⟨⟨⟨h1, h2⟩, h3⟩, h4⟩ := hc'
      refine .inr ⟨_, _, dp_of 60 h1 r1, dp_of 60 h2 r2, shaped60 h1, alike_py h3, ?_, ?_⟩
      · intro z
        cases a <;> first | (simp [notNon] at h4; done) | (simp [pyD] at z; done) | (simp [plain, plainN] at h1; done)
      · rw [lt_py 60 h1 h2 h3]
        exact fin _ rfl
    · cases hx
theorem s_lt (hu : X.A.units + 64 < cLine) : Op2S X Γ (compareOp .Lt) opLt := (b_lt hu).toS
theorem b_le : Op2B X Γ (compareOp .LtE) opLe := by
  refine ⟨_, op_le, fun {H v1 v2 a b o Q} r1 r2 e fin => ?_⟩
  cases a <;> cases b <;> simp [opLe] at e
  exact ⟨_, _, r1, r2, fin _ e.symm⟩
end
end FA
namespace FA
open PySem L2
/-! ### where a sign stands in a text -/
open StrLaws in
theorem occ_sign (s : Str) (c hi limit : Nat) : ∀ (n a : Nat) (acc : Array Nat) (free : Nat), free ≤ a →
    ((forIn (List.range' a n) (acc, free) (occBody s ⟨#[c]⟩ hi limit)).run.fst.toList = acc.toList ++ ((List.range' a n).filter fun i => decide (i + 1 ≤ hi ∧ s.cps.toList[i]? = some c ∧ i + 1 ≤ s.length)).take (limit - acc.size))
  | 0, a, acc, free, _ => by simp [List.range', Id.run, pure]
  | n + 1, a, acc, free, hf => by
    rw [List.range'_succ, List.forIn_cons]
    have hlen : (⟨#[c]⟩ : Str).length = 1 := rfl
    have key : ∀ i, (Builtin.Str.subAt s ⟨#[c]⟩ i = true) ∧ i + 1 ≤ s.length ↔ s.cps.toList[i]? = some c ∧ i + 1 ≤ s.length := by
      intro i
      have := subAt_one s c i
      rw [hlen] at this
      constructor
      · rintro ⟨h1, h2⟩; exact ⟨this.mp ⟨h2, h1⟩, h2⟩
      · rintro ⟨h1, h2⟩; exact ⟨(this.mpr h1).2, h2⟩
    have key2 : Builtin.Str.subAt s ⟨#[c]⟩ a = true ↔ s.cps.toList[a]? = some c ∧ a + 1 ≤ s.length ∨ (Builtin.Str.subAt s ⟨#[c]⟩ a = true ∧ ¬ a + 1 ≤ s.length) := by
      have := key a
      by_cases h : a + 1 ≤ s.length
      · simp only [h, and_true, not_true_eq_false, and_false, or_false] at this ⊢; exact this
      · simp [h]
    unfold occBody
    by_cases hc : (((acc.size < limit ∧ free ≤ a) ∧ a + (⟨#[c]⟩ : Str).length ≤ hi) ∧ Builtin.Str.subAt s ⟨#[c]⟩ a = true)
    · rw [if_pos hc]
      obtain ⟨⟨⟨h1, _⟩, h2⟩, h3⟩ := hc
      rw [hlen] at h2
      have hs : s.cps.toList[a]? = some c := by
        rw [subAt_eq] at h3; exact take1_drop.mp h3
      have hl : a + 1 ≤ s.length := by
        obtain ⟨q, _⟩ := List.getElem?_eq_some_iff.mp hs
        simp [Str.length] at q ⊢; omega
      have ih := occ_sign s c hi limit n (a + 1) (acc.push a) (a + 1) (Nat.le_refl _)
      show ((forIn (List.range' (a + 1) n) (acc.push a, a + 1) (occBody s ⟨#[c]⟩ hi limit)).run.fst.toList = _)
      rw [ih]
      have e : limit - acc.size = (limit - (acc.push a).size) + 1 := by simp; omega
      rw [List.filter_cons_of_pos (by simp [h2, hs, hl]), e, List.take_succ_cons]
      simp
    · rw [if_neg hc]
      have ih := occ_sign s c hi limit n (a + 1) acc free (by omega)
      show ((forIn (List.range' (a + 1) n) (acc, free) (occBody s ⟨#[c]⟩ hi limit)).run.fst.toList = _)
      rw [ih]
      by_cases hl : acc.size < limit
      · have : ¬ (a + 1 ≤ hi ∧ s.cps.toList[a]? = some c ∧ a + 1 ≤ s.length) := by
          rintro ⟨h1, h2, h3⟩
          refine hc ⟨⟨⟨hl, hf⟩, by rw [hlen]; exact h1⟩, ?_⟩
          rw [subAt_eq]; exact take1_drop.mpr h2
        rw [List.filter_cons_of_neg (by simpa using this)]
      · have : limit - acc.size = 0 := by omega
        rw [this]; simp
theorem filt_from : ∀ (l : List Nat) (c a : Nat) (m : List Nat), (∀ i, m[a + i]? = l[i]?) → ((List.range' a l.length).filter fun i => decide (m[i]? = some c)) = ((List.range' 0 l.length).filter fun i => decide (l[i]? = some c)).map (· + a)
  | l, c, a, m, h => by
    have : ∀ n b, ((List.range' (b + a) n).filter fun i => decide (m[i]? = some c)) = ((List.range' b n).filter fun i => decide (l[i]? = some c)).map (· + a) := by
      intro n
      induction n with
      | zero => intro b; rfl
      | succ n ih =>
        intro b
        rw [List.range'_succ, List.range'_succ, List.filter_cons, List.filter_cons, show b + a + 1 = (b + 1) + a by omega, ih]
        have e : m[b + a]? = l[b]? := by rw [Nat.add_comm, h]
        rw [e]
        split <;> simp
    simpa using this l.length 0
theorem occ_all (s : List Nat) (c limit : Nat) : Builtin.Str.occurrences (Str' s) ⟨#[c]⟩ 0 (Str' s).length limit = ((List.range' 0 s.length).filter fun i => decide (s[i]? = some c)).take limit := by
  rw [StrLaws.occ_eq, occ_sign _ _ _ _ _ _ _ _ (Nat.le_refl _)]
  have e1 : (Str' s).length = s.length := Str'_len s
  have e2 : (Str' s).cps.toList = s := rfl
  rw [e1, e2]
  simp only [List.nil_append, Array.toList_empty, Array.size_empty, Nat.sub_zero]
  rw [show s.length + 1 = s.length + 1 from rfl, List.range'_concat, List.filter_append]
  have h0 : (List.filter (fun i => decide (i + 1 ≤ s.length ∧ s[i]? = some c ∧ i + 1 ≤ s.length)) [0 + 1 * s.length]) = [] := by simp
  rw [h0, List.append_nil]
  congr 1
  apply List.filter_congr
  intro i hi
  have hi' : i < s.length := by simp [List.mem_range'] at hi; omega
  have h1 : i + 1 ≤ s.length := hi'
  simp [h1]
theorem findN_filter : ∀ (s : List Nat) (c : Nat), findN s c = ((List.range' 0 s.length).filter fun i => decide (s[i]? = some c)).head?
  | [], c => rfl
  | d :: r, c => by
    have ih := findN_filter r c
    have h1 := filt_from r c 1 (d :: r) (fun i => by simp [Nat.add_comm])
    show (if d = c then some 0 else (findN r c).map (· + 1)) = ((List.range' 0 (r.length + 1)).filter _).head?
    rw [List.range'_succ]
    by_cases h : d = c
    · rw [if_pos h, List.filter_cons_of_pos (by simp [h])]; rfl
    · rw [if_neg h, List.filter_cons_of_neg (by simp [h]), h1, ih, List.head?_map]
theorem count_filter : ∀ (s : List Nat) (c : Nat), (s.countP fun d => d == c) = ((List.range' 0 s.length).filter fun i => decide (s[i]? = some c)).length
  | [], c => rfl
  | d :: r, c => by
    have ih := count_filter r c
    have h1 := filt_from r c 1 (d :: r) (fun i => by simp [Nat.add_comm])
    show _ = ((List.range' 0 (r.length + 1)).filter _).length
    rw [List.range'_succ, List.countP_cons]
    by_cases h : d = c
    · rw [List.filter_cons_of_pos (by simp [h]), List.length_cons, h1, List.length_map, ih]; simp [h]
    · rw [List.filter_cons_of_neg (by simp [h]), h1, List.length_map, ih]; simp [h]
theorem filt_len (s : List Nat) (c : Nat) : ((List.range' 0 s.length).filter fun i => decide (s[i]? = some c)).length ≤ s.length := by
  have := List.length_filter_le (fun i => decide (s[i]? = some c)) (List.range' 0 s.length)
  simpa using this
theorem count_sign (s : List Nat) (c : Nat) : Txt.count (Str' s) (Str' [c]) = (s.countP fun d => d == c) := by
  show ((Builtin.Str.occurrences (Str' s) ⟨#[c]⟩ 0 (Str' s).length ((Str' s).length + 1)).length : Int) = _
  rw [occ_all, List.take_of_length_le (by have := filt_len s c; rw [Str'_len]; omega), count_filter]
theorem index_sign {s : List Nat} {c k : Nat} (h : findN s c = some k) : ∃ rest, Builtin.Str.occurrences (Str' s) (Str' [c]) 0 (Str' s).length 1 = k :: rest := by
  show ∃ rest, Builtin.Str.occurrences (Str' s) ⟨#[c]⟩ 0 (Str' s).length 1 = k :: rest
  rw [occ_all]
  rw [findN_filter] at h
  cases e : ((List.range' 0 s.length).filter fun i => decide (s[i]? = some c)) with
  | nil => rw [e] at h; cases h
  | cons a r => rw [e] at h; cases h; exact ⟨[], by simp⟩
theorem prefixB_take : ∀ (x s : List Nat), prefixB x s = (s.take x.length == x)
  | [], s => by simp [prefixB]
  | _ :: _, [] => by simp [prefixB]
  | a :: r, b :: s => by
    simp only [prefixB, List.length_cons, List.take_succ_cons]
    rw [prefixB_take r s, Bool.eq_iff_iff]
    simp
    intro _
    exact ⟨fun h => h.symm, fun h => h.symm⟩
theorem hasSub_iff (x : List Nat) : ∀ (s : List Nat), hasSub x s = true ↔ ∃ i, i + x.length ≤ s.length ∧ (s.drop i).take x.length = x
  | [] => by
    cases x with
    | nil => simp [hasSub]
    | cons a r => simp [hasSub]
  | c :: r => by
    have ih := hasSub_iff x r
    show (prefixB x (c :: r) || hasSub x r) = true ↔ _
    rw [Bool.or_eq_true_iff, ih, prefixB_take]
    constructor
    · rintro (h | ⟨i, h1, h2⟩)
      · refine ⟨0, ?_, by simpa using h⟩
        have := congrArg List.length (show List.take x.length (c :: r) = x by simpa using h)
        rw [List.length_take] at this
        omega
      · exact ⟨i + 1, by simp; omega, by simpa using h2⟩
    · rintro ⟨i, h1, h2⟩
      cases i with
      | zero => left; simpa using h2
      | succ i => right; exact ⟨i, by simp at h1; omega, by simpa using h2⟩
theorem has_sub (x s : List Nat) : (!(Builtin.Str.occurrences (Str' s) (Str' x) 0 (Str' s).length 1).isEmpty) = hasSub x s := by
  rw [Bool.eq_iff_iff, StrLaws.found_iff, hasSub_iff]
  constructor
  · rintro ⟨i, h1, h2⟩
    rw [StrLaws.subAt_eq, Str'_len] at h2
    refine ⟨i, by simpa [Str'_len] using h1, ?_⟩
    simpa [Str'] using h2
  · rintro ⟨i, h1, h2⟩
    refine ⟨i, by simpa [Str'_len] using h1, ?_⟩
    rw [StrLaws.subAt_eq, Str'_len]
    simpa [Str'] using h2
end FA
namespace FA
open PySem L2
section
variable {X : Cx} {Γ : Wd} {F F' Fr H H' : Hp} {L : List Addr} {its : Bag} {v w : V}
theorem flats_v : ∀ {ds : List D} {vs : List V}, ds.all flatD = true → RepFs Γ H ds vs → vs = ds.map vD ∧ vs.all flatV = true
  | [], _, _, r => by rw [show _ = _ from r]; exact ⟨rfl, rfl⟩
  | d :: t, _, h, ⟨v, vr, e, p, q⟩ => by
    subst e
    have h' : flatD d = true ∧ t.all flatD = true := by simpa using h
    obtain ⟨a, b⟩ := flat_v h'.1 p
    obtain ⟨c, e⟩ := flats_v h'.2 q
    exact ⟨by rw [a, c]; rfl, by simp [b, e]⟩
theorem inV_v {d : D} (h : flatD d = true) : ∀ {ds : List D}, ds.all flatD = true → inV (vD d) (ds.map vD) = ds.any fun e => eqv e d
  | [], _ => rfl
  | e :: t, hs => by
    have h' : flatD e = true ∧ t.all flatD = true := by simpa using hs
    show (eqV (vD e) (vD d) || inV (vD d) (t.map vD)) = (eqv e d || t.any fun z => eqv z d)
    rw [eqV_v h'.1 h, inV_v h h'.2]
theorem any_py {d : D} (h : plain d = true) : ∀ {ds : List D}, plains ds = true → ((ds.map pyD).any fun z => PyData.eqv z (pyD d)) = ds.any fun e => eqv e d
  | [], _ => rfl
  | e :: t, hs => by
    have h' : plain e = true ∧ plains t = true := by simpa [plains] using hs
    simp only [List.map_cons, List.any_cons]
    rw [eqv_py 60 h'.1 h, any_py h h'.2]
/-- x in a tuple of data at any depth: by its items as a list would (tuples of flat items alone) -/
theorem b_in (hu : X.A.units + 65 < cLine) : Op2B X Γ (compareOp .In) opIn := by
  refine ⟨_, op_in_str.or (op_in_seq.or (op_inD hu)), fun {H v1 v2 a b o Q} r1 r2 e fin => ?_⟩
  cases b with
  | str s =>
    cases a with
    | str x =>
      simp only [opIn, inD, Option.map_some, Option.some.injEq] at e
      refine .inl ⟨_, _, r1, r2, ?_⟩
      rw [has_sub]
      exact fin _ e.symm
    | _ => simp [opIn, inD] at e
  | lst ds =>
    have e' : (if eqsOk a ds then some (ds.any fun d => eqv d a) else none).map boolO = some o := by
      cases a <;> exact e
    obtain ⟨b, hb, rfl⟩ := Option.map_eq_some_iff.mp e'
    split at hb
    · rename_i hc
      cases hb
      obtain ⟨p, vs, rfl, hp, q⟩ := r2
      rcases Bool.or_eq_true_iff.mp (show ((flatD a && ds.all flatD) || (plain a && plains ds)) = true from hc) with h | h
      · obtain ⟨h1, h2⟩ := Bool.and_eq_true_iff.mp h
        obtain ⟨ea, fa⟩ := flat_v h1 r1
        obtain ⟨es, fs⟩ := flats_v h2 q
        subst ea es
        refine .inr (.inl ⟨p, _, rfl, .inl (.inl (.inl hp)), fa, fs, ?_⟩)
        rw [if_neg Bool.false_ne_true, inV_v h1 h2]
        exact fin _ rfl
      · obtain ⟨h1, h2⟩ := Bool.and_eq_true_iff.mp h
        refine .inr (.inr ⟨_, _, dp_of 60 h1 r1, dpl_of h2 hp q, shaped60 h1, shaped60l h2, ?_⟩)
        rw [any_py h1 h2]
        exact fin _ rfl
    · cases hb
  | tup ds =>
    have e' : (if flatD a && ds.all flatD then some (ds.any fun d => eqv d a) else none).map boolO = some o := by
      cases a <;> exact e
    obtain ⟨b, hb, rfl⟩ := Option.map_eq_some_iff.mp e'
    split at hb
    · rename_i hf
      cases hb
      obtain ⟨h1, h2⟩ := Bool.and_eq_true_iff.mp hf
      obtain ⟨p, vs, rfl, hp, q⟩ := r2
      obtain ⟨ea, fa⟩ := flat_v h1 r1
      obtain ⟨es, fs⟩ := flats_v h2 q
      subst ea es
      refine .inr (.inl ⟨p, _, rfl, .inr (.inl (.inl hp)), fa, fs, ?_⟩)
      rw [if_neg Bool.false_ne_true, inV_v h1 h2]
      exact fin _ rfl
    · cases hb
  | _ => cases a <;> simp [opIn, inD] at e
theorem b_notin (hu : X.A.units + 65 < cLine) : Op2B X Γ (compareOp .NotIn) opNotIn := by
  refine ⟨_, op_notin_str.or (op_notIn_seq.or (op_notInD hu)), fun {H v1 v2 a b o Q} r1 r2 e fin => ?_⟩
  cases b with
  | str s =>
    cases a with
    | str x =>
      simp only [opNotIn, inD, Option.map_some, Option.some.injEq] at e
      refine .inl ⟨_, _, r1, r2, ?_⟩
      rw [has_sub]
      exact fin _ e.symm
    | _ => simp [opNotIn, inD] at e
  | lst ds =>
    have e' : (if eqsOk a ds then some (ds.any fun d => eqv d a) else none).map (fun x => boolO (!x)) = some o := by
      cases a <;> exact e
    obtain ⟨b, hb, rfl⟩ := Option.map_eq_some_iff.mp e'
    split at hb
    · rename_i hc
      cases hb
      obtain ⟨p, vs, rfl, hp, q⟩ := r2
      rcases Bool.or_eq_true_iff.mp (show ((flatD a && ds.all flatD) || (plain a && plains ds)) = true from hc) with h | h
      · obtain ⟨h1, h2⟩ := Bool.and_eq_true_iff.mp h
        obtain ⟨ea, fa⟩ := flat_v h1 r1
        obtain ⟨es, fs⟩ := flats_v h2 q
        subst ea es
        refine .inr (.inl ⟨p, _, rfl, .inl (.inl (.inl hp)), fa, fs, ?_⟩)
        rw [if_pos rfl, inV_v h1 h2]
        exact fin _ rfl
      · obtain ⟨h1, h2⟩ := Bool.and_eq_true_iff.mp h
        refine .inr (.inr ⟨_, _, dp_of 60 h1 r1, dpl_of h2 hp q, shaped60 h1, shaped60l h2, ?_⟩)
        rw [any_py h1 h2]
        exact fin _ rfl
    · cases hb
  | tup ds =>
    have e' : (if flatD a && ds.all flatD then some (ds.any fun d => eqv d a) else none).map (fun x => boolO (!x)) = some o := by
      cases a <;> exact e
    obtain ⟨b, hb, rfl⟩ := Option.map_eq_some_iff.mp e'
    split at hb
    · rename_i hf
      cases hb
      obtain ⟨h1, h2⟩ := Bool.and_eq_true_iff.mp hf
      obtain ⟨p, vs, rfl, hp, q⟩ := r2
      obtain ⟨ea, fa⟩ := flat_v h1 r1
      obtain ⟨es, fs⟩ := flats_v h2 q
      subst ea es
      refine .inr (.inl ⟨p, _, rfl, .inr (.inl (.inl hp)), fa, fs, ?_⟩)
      rw [if_pos rfl, inV_v h1 h2]
      exact fin _ rfl
    · cases hb
  | _ => cases a <;> simp [opNotIn, inD] at e
theorem s_in (hu : X.A.units + 65 < cLine) : Op2S X Γ (compareOp .In) opIn := (b_in hu).toS
theorem s_notin (hu : X.A.units + 65 < cLine) : Op2S X Γ (compareOp .NotIn) opNotIn := (b_notin hu).toS
theorem s_is : Op2S X Γ (compareOp .Is) opIs := by
  refine ⟨_, op_isN.or op_isBl, fun {F Fr H L its v1 v2 o1 o2 o Q} g e k => ?_⟩
  have r1 := G.view1 g
  have r2 := G.view g
  have fin : ∀ b, o = boolO b → Q (.bl b) H := fun b hb => k _ F H (Sub.refl _) ((G.tail2 g).addF (d := .bl b) rfl |> fun z => by rw [hb]; exact z)
  generalize o1.fr = a at *
  generalize o2.fr = b at *
  cases b with
  | non =>
    refine .inl ⟨r2, ?_⟩
    cases a <;> simp [opIs, isD] at e <;> (refine fin _ ?_; rw [← e]; congr 1; first | (rw [show v1 = _ from r1]; rfl) | (obtain ⟨_, _, rfl, _⟩ := r1; rfl) | (obtain ⟨_, _, _, _, rfl, _⟩ := r1; rfl) | (obtain ⟨_, rfl, _⟩ := r1; rfl))
  | bl y =>
    cases a <;> simp [opIs, isD] at e
    refine .inr ⟨_, _, r1, r2, ?_⟩
    refine fin _ ?_
    rw [← e]
    congr 1
  | _ => cases a <;> simp [opIs, isD] at e
theorem s_isnot : Op2S X Γ (compareOp .IsNot) opIsNot := by
  refine ⟨_, op_notN.or op_notBl, fun {F Fr H L its v1 v2 o1 o2 o Q} g e k => ?_⟩
  have r1 := G.view1 g
  have r2 := G.view g
  have fin : ∀ b, o = boolO b → Q (.bl b) H := fun b hb => k _ F H (Sub.refl _) ((G.tail2 g).addF (d := .bl b) rfl |> fun z => by rw [hb]; exact z)
  generalize o1.fr = a at *
  generalize o2.fr = b at *
  cases b with
  | non =>
    refine .inl ⟨r2, ?_⟩
    cases a <;> simp [opIsNot, isD] at e <;> (refine fin _ ?_; rw [← e]; congr 1; first | (rw [show v1 = _ from r1]; rfl) | (obtain ⟨_, _, rfl, _⟩ := r1; rfl) | (obtain ⟨_, _, _, _, rfl, _⟩ := r1; rfl) | (obtain ⟨_, rfl, _⟩ := r1; rfl))
  | bl y =>
    cases a <;> simp [opIsNot, isD] at e
    refine .inr ⟨_, _, r1, r2, ?_⟩
    refine fin _ ?_
    rw [← e]
    congr 1
  | _ => cases a <;> simp [opIsNot, isD] at e

/-! ### subscripts -/
theorem idx_ix {n : Nat} {i : Int} {k : Nat} (h : idx n i = some k) : ixN n i = some k := by
  unfold idx at h
  unfold ixN
  split at h
  · rename_i h0
    rw [if_pos h0]
    split at h
    · rename_i h1
      cases h
      rw [if_pos (by omega)]
    · cases h
  · rename_i h0
    rw [if_neg h0]
    split at h
    · cases h
      rw [if_pos (by omega)]
      congr 1
      omega
    · cases h
theorem atI_of {α : Type} {xs : List α} {i : Int} {x : α} {n : Nat} (hn : n = xs.length) (h : ((idx n i).bind fun k => xs[k]?) = some x) : atI xs i = some x := by
  subst hn
  obtain ⟨k, hk, hx⟩ := Option.bind_eq_some_iff.mp h
  unfold atI
  rw [idx_ix hk]
  exact hx
theorem s_item : ∃ r : R2, IxR X r ∧ ∀ {F Fr H : Hp} {L : List Addr} {its : Bag} {v1 v2 : V} {o1 o2 o : O} {Q : VK}, X.K = Γ.K → G Γ F Fr H L ((v2, o2) :: (v1, o1) :: its) → opItem o1.fr o2.fr = some o →
    (∀ v F' H', Sub F F' → G Γ F' Fr H' L ((v, o) :: its) → Q v H') → r v1 v2 H Q := by
  refine ⟨_, ix_seq, fun {F Fr H L its v1 v2 o1 o2 o Q} hK g e k => ?_⟩
  have r1 := G.view1 g
  have r2 := G.view g
  obtain ⟨F1, s1, g1, p1, p2⟩ := G.freeze2 g
  generalize o1.fr = a at *
  generalize o2.fr = b at *
  obtain ⟨d, hd, rfl⟩ := Option.map_eq_some_iff.mp e
  cases a with
  | lst ds =>
    cases b with
    | int i =>
      obtain ⟨p, vs, rfl, hp, q⟩ := p1
      obtain ⟨j, hj, hx⟩ := Option.bind_eq_some_iff.mp hd
      obtain ⟨u, hu, ru⟩ := q.get hx
      refine .inl ⟨p, vs, i, u, rfl, r2, .inl (.inl (g1.sub _ _ hp)), atI_of (n := ds.length) q.len.symm ?_, k _ F1 H s1 (g1.addF ru)⟩
      rw [hj]; exact hu
    | _ => simp [itemD] at hd
  | tup ds =>
    cases b with
    | int i =>
      obtain ⟨p, vs, rfl, hp, q⟩ := p1
      obtain ⟨j, hj, hx⟩ := Option.bind_eq_some_iff.mp hd
      obtain ⟨u, hu, ru⟩ := q.get hx
      refine .inr (.inl ⟨p, vs, i, u, rfl, r2, .inl (.inl (g1.sub _ _ hp)), atI_of (n := ds.length) q.len.symm ?_, k _ F1 H s1 (g1.addF ru)⟩)
      rw [hj]; exact hu
    | _ => simp [itemD] at hd
  | str s =>
    cases b with
    | int i =>
      simp only [itemD] at hd
      split at hd
      · rename_i hz
        obtain ⟨j, hj, hx⟩ := Option.bind_eq_some_iff.mp hd
        obtain ⟨c, hc, rfl⟩ := Option.map_eq_some_iff.mp hx
        refine .inr (.inr ⟨_, i, c, r1, r2, by rw [Str'_len, ← line_eq]; exact hz, atI_of (n := s.length) rfl ?_, k _ F1 H s1 (g1.addF (d := .str [c]) rfl)⟩)
        rw [hj]; exact hc
      · cases hd
    | _ => simp [itemD] at hd
  | scr ns =>
    cases b with
    | int i =>
      obtain ⟨p, rfl, hp⟩ := r1
      obtain ⟨j, hj, hx⟩ := Option.bind_eq_some_iff.mp hd
      obtain ⟨n, hn, rfl⟩ := Option.map_eq_some_iff.mp hx
      refine .inl ⟨p, _, i, .int n, rfl, r2, (by rw [hK]; exact hp), atI_of (n := ns.length) (by simp) ?_, k _ F1 H s1 (g1.addF (d := .int n) rfl)⟩
      rw [hj]
      simp [hn]
    | _ => simp [itemD] at hd
  | _ => cases b <;> simp [itemD] at hd
end
end FA
/-! FAru: the rules for expressions. -/
namespace FA
open PySem L2
section
variable {X : Cx} {Γ : Wd} {W : WX} {e a b c : Expr} {pos : Pos} {ca cb cc : Ex} {pa pb : Px} {ta tb : Tx} {F F' Fr H H' : Hp} {σ : St} {ρ ρ' : Env} {ts : Bag} {v : V} {o : O}

theorem GS.g2 (g : GS Γ F Fr H σ ρ ts) {us : Bag} {F' H' : Hp} (g' : G Γ F' Fr H' [] (us ++ (ts ++ live σ ρ))) : GS Γ F' Fr H' σ ρ (us ++ ts) := ⟨g.ok, by rw [List.append_assoc]; exact g'⟩
/-- an operation within a state -/
theorem GS.via (g : GS Γ F Fr H σ ρ ts) {us : Bag} (k : G Γ F' Fr H' [] (us ++ (ts ++ live σ ρ))) : GS Γ F' Fr H' σ ρ (us ++ ts) := g.g2 k

/-! ### what is read -/
theorem RepO.same (h : Sub F F') (h' : Sub H H') {o : O} {v : V} {fp : List Addr} : RepO Γ F H o v fp → RepO Γ F' H' o v fp := by
  intro r
  -- all that it owns is told by H
  have key : ∀ {o : O} {v : V} {fp : List Addr}, RepO Γ F H o v fp → ∀ a ∈ fp, ∃ u, H a = some u := by
    intro o v fp r
    exact owns r
  exact r.frame h fun a ha => by
    obtain ⟨u, hu⟩ := key r a ha
    rw [hu]; exact h' _ _ hu
where
  owns : ∀ {o : O} {v : V} {fp : List Addr}, RepO Γ F H o v fp → ∀ a ∈ fp, ∃ u, H a = some u
  | .fz _, _, _, ⟨_, e⟩, a, ha => by rw [e] at ha; cases ha
  | .lst _, _, _, ⟨a, vs, f, e, q, ef, r⟩, b, hb => by
    rw [ef] at hb
    rcases List.mem_cons.mp hb with rfl | hb
    · exact ⟨_, q⟩
    · exact ownss r b hb
  | .tup _, _, _, ⟨a, vs, e, q, r⟩, b, hb => ownss r b hb
  | .dic _, _, _, ⟨a, vs, f, e, q, ef, r⟩, b, hb => by
    rw [ef] at hb
    rcases List.mem_cons.mp hb with rfl | hb
    · rcases q with ⟨kk, e, _⟩ | ⟨⟨xs, e, _⟩⟩ <;> exact ⟨_, e⟩
    · exact ownsk r b hb
  | .ins _ _, _, _, ⟨a, C, dx, fvs, f, e, c, q, ef, r⟩, b, hb => by
    rw [ef] at hb
    rcases List.mem_cons.mp hb with rfl | hb
    · exact ⟨_, q⟩
    · exact ownsf r b hb
  ownss : ∀ {os : List O} {vs : List V} {fp : List Addr}, RepOs Γ F H os vs fp → ∀ a ∈ fp, ∃ u, H a = some u
  | [], _, _, ⟨_, e⟩, a, ha => by rw [e] at ha; cases ha
  | _ :: _, _, _, ⟨v, vr, f1, f2, e, ef, r, s⟩, b, hb => by
    rw [ef] at hb
    exact (List.mem_append.mp hb).elim (owns r b) (ownss s b)
  ownsk : ∀ {os : List (D × O)} {vs : List (D × V)} {fp : List Addr}, RepOk Γ F H os vs fp → ∀ a ∈ fp, ∃ u, H a = some u
  | [], _, _, ⟨_, e⟩, a, ha => by rw [e] at ha; cases ha
  | (_, _) :: _, _, _, ⟨v, vr, f1, f2, e, ef, r, s⟩, b, hb => by
    rw [ef] at hb
    exact (List.mem_append.mp hb).elim (owns r b) (ownsk s b)
  ownsf : ∀ {c : String} {os : List (String × O)} {vs : List (Str × V)} {fp : List Addr}, RepOf Γ F H c os vs fp → ∀ a ∈ fp, ∃ u, H a = some u
  | _, [], _, _, ⟨_, e⟩, a, ha => by rw [e] at ha; cases ha
  | _, (_, _) :: _, _, _, ⟨v, vr, f1, f2, e, c, ef, r, s⟩, b, hb => by
    rw [ef] at hb
    exact (List.mem_append.mp hb).elim (owns r b) (ownsf s b)

theorem dp_var (i : Nat) {x : Str} (hN : X.N[i]? = some x := by rfl) (hv : Vis X.env.scope x := by first | exact Or.inl rfl | exact Or.inr (Or.inl rfl) | exact Or.inr (Or.inr rfl)) (hd : (x == ("__debug__" : Str)) = false := by decide)
    (hcd : (x == ("__classdict__" : Str)) = false := by decide) : DenP X Γ (.Name x pos) (pV i) := pe_imp (pv i hN hv hd hcd) fun σ H Q ⟨ρ, F, Fr, ts, o, g, e, k⟩ => by
  have e' : ρ[i]? = some (some o) := by
    unfold pV at e
    split at e
    · rename_i x hx; cases e; exact hx
    · cases e
  obtain ⟨v, hv, g'⟩ := g.take e'
  obtain ⟨fp, r⟩ := G.head g'.g
  exact ⟨v, hv, k v F H fp (Sub.refl _) (Sub.refl _) g r⟩
theorem dp_const {t : TE} {d : D} (he : PE X e t) (h : ∀ σ H Q, (∀ v, RepF Γ (fun _ => none) d v → Q v H) → t σ H Q) : DenP X Γ e (pC d) := pe_imp he fun σ H Q ⟨ρ, F, Fr, ts, o, g, e, k⟩ => by
  cases e
  exact h σ H Q fun v r => k v F H [] (Sub.refl _) (Sub.refl _) g ⟨RepF.mono (fun _ _ z => by cases z) r, rfl⟩
theorem dp_int {i : Int} {j : Nat} : DenP X Γ (.Constant (.int i) j pos) (pC (.int i)) := dp_const pe_int fun _ _ _ k => k _ rfl
theorem dp_neg {i : Int} {j : Nat} {p : Pos} : DenP X Γ (.UnaryOp .USub (.Constant (.int i) j p) pos) (pC (.int (-i))) := dp_const (pe_un un_neg pe_int) fun _ _ _ k => ⟨i, rfl, k _ rfl⟩
theorem dp_bl {i : Bool} {j : Nat} : DenP X Γ (.Constant (.bool i) j pos) (pC (.bl i)) := dp_const pe_bl fun _ _ _ k => k _ rfl
theorem dp_non {j : Nat} : DenP X Γ (.Constant .none j pos) (pC .non) := dp_const pe_non fun _ _ _ k => k _ rfl
theorem dp_str {x : Str} {s : List Nat} {j : Nat} (h : x = Str' s := by decide +kernel) : DenP X Γ (.Constant (.str x) j pos) (pC (.str s)) := dp_const pe_str fun _ _ _ k => k _ (by rw [h]; rfl)
/-- a module's constant -/
theorem dp_gint {x : Str} {i : Int} {t : Tok} (hg : Gl X x) (hm : X.mg x = some (.int i t)) (hd : (x == ("__debug__" : Str)) = false := by decide) : DenP X Γ (.Name x pos) (pC (.int i)) := dp_const (pe_glob (v := .int i) hg hm ⟨t, rfl⟩ hd) fun _ _ _ k => k _ rfl
theorem dp_gstr {x y : Str} {s : List Nat} {t : Tok} (hg : Gl X x) (hm : X.mg x = some (.str y t)) (h : y = Str' s := by decide +kernel) (hd : (x == ("__debug__" : Str)) = false := by decide) : DenP X Γ (.Name x pos) (pC (.str s)) := dp_const (pe_glob (v := .str y) hg hm ⟨t, rfl⟩ hd) fun _ _ _ k => k _ (by rw [h]; rfl)

theorem RepOs.get : ∀ {os : List O} {vs : List V} {fp : List Addr} {i : Nat} {o : O}, RepOs Γ F H os vs fp → os[i]? = some o → ∃ v f, vs[i]? = some v ∧ RepO Γ F H o v f
  | [], _, _, _, _, _, e => by simp at e
  | x :: _, _, _, 0, d, ⟨v, vr, f1, f2, e, _, p, _⟩, h => by subst e; simp at h; subst h; exact ⟨v, f1, by simp, p⟩
  | _ :: _, _, _, i + 1, d, ⟨v, vr, f1, f2, e, _, _, q⟩, h => by subst e; simpa using RepOs.get (i := i) q (by simpa using h)
theorem RepOs.len {os : List O} {vs : List V} {fp : List Addr} (r : RepOs Γ F H os vs fp) : vs.length = os.length := r.toL.1
theorem dp_ix (hK : X.K = Γ.K) (ha : DenP X Γ a pa) (hb : DenP X Γ b pb) (hs : PlainIx b) : DenP X Γ (.Subscript a b pos) (pIx pa pb) := pe_imp (pe_ix ix_seq ha hb hs) fun σ H Q ⟨ρ, F, Fr, ts, o, g, e, k⟩ => by
  obtain ⟨o1, h1, e⟩ := Option.bind_eq_some_iff.mp e
  obtain ⟨o2, h2, e⟩ := Option.bind_eq_some_iff.mp e
  refine ⟨ρ, F, Fr, ts, o1, g, h1, fun v1 F1 H1 f1 s1 t1 g1 r1 => ⟨ρ, F1, Fr, ts, o2, g1, h2, fun v2 F2 H2 f2 s2 t2 g2 r2 => ?_⟩⟩
  have r1' := r1.same s2 t2
  have q2 := r2.view g2.sub
  generalize o2.fr = b' at *
  have fin : ∀ u f, RepO Γ F2 H2 o u f → Q u H2 := fun u f r => k u F2 H2 f (s1.trans s2) (t1.trans t2) g2 r
  cases o1 with
  | fz d =>
    obtain ⟨d', hd, rfl⟩ := Option.map_eq_some_iff.mp (show (itemD d b').map .fz = some o from e)
    obtain ⟨p1, _⟩ := r1'
    have fin' : ∀ u, RepF Γ F2 d' u → Q u H2 := fun u r => fin u [] ⟨r, rfl⟩
    cases d with
    | lst ds =>
      cases b' with
      | int i =>
        obtain ⟨p, vs, rfl, hp, q⟩ := p1
        obtain ⟨j, hj, hx⟩ := Option.bind_eq_some_iff.mp hd
        obtain ⟨u, hu, ru⟩ := q.get hx
        refine .inl ⟨p, vs, i, u, rfl, q2, .inl (.inl (g2.sub _ _ hp)), atI_of (n := ds.length) q.len.symm ?_, fin' u ru⟩
        rw [hj]; exact hu
      | _ => simp [itemD] at hd
    | tup ds =>
      cases b' with
      | int i =>
        obtain ⟨p, vs, rfl, hp, q⟩ := p1
        obtain ⟨j, hj, hx⟩ := Option.bind_eq_some_iff.mp hd
        obtain ⟨u, hu, ru⟩ := q.get hx
        refine .inr (.inl ⟨p, vs, i, u, rfl, q2, .inl (.inl (g2.sub _ _ hp)), atI_of (n := ds.length) q.len.symm ?_, fin' u ru⟩)
        rw [hj]; exact hu
      | _ => simp [itemD] at hd
    | str s =>
      cases b' with
      | int i =>
        simp only [itemD] at hd
        split at hd
        · rename_i hz
          obtain ⟨j, hj, hx⟩ := Option.bind_eq_some_iff.mp hd
          obtain ⟨c, hc, rfl⟩ := Option.map_eq_some_iff.mp hx
          refine .inr (.inr ⟨_, i, c, p1, q2, by rw [Str'_len, ← line_eq]; exact hz, atI_of (n := s.length) rfl ?_, fin' _ rfl⟩)
          rw [hj]; exact hc
        · cases hd
      | _ => simp [itemD] at hd
    | scr ns =>
      cases b' with
      | int i =>
        obtain ⟨p, rfl, hp⟩ := p1
        obtain ⟨j, hj, hx⟩ := Option.bind_eq_some_iff.mp hd
        obtain ⟨n, hn, rfl⟩ := Option.map_eq_some_iff.mp hx
        refine .inl ⟨p, _, i, .int n, rfl, q2, (by rw [hK]; exact Same.seq g2.sub hp), atI_of (n := ns.length) (by simp) ?_, fin' _ rfl⟩
        rw [hj]
        simp [hn]
      | _ => simp [itemD] at hd
    | _ => cases b' <;> simp [itemD] at hd
  | lst os =>
    cases b' with
    | int i =>
      obtain ⟨p, vs, f, rfl, hp, ef, q⟩ := r1'
      obtain ⟨j, hj, hx⟩ := Option.bind_eq_some_iff.mp (show ((idx os.length i).bind fun k => os[k]?) = some o from e)
      obtain ⟨u, fu, hu, ru⟩ := q.get hx
      refine .inl ⟨p, vs, i, u, rfl, q2, .inl (.inl hp), atI_of (n := os.length) q.len.symm ?_, fin u fu ru⟩
      rw [hj]; exact hu
    | _ => simp [itemO] at e
  | tup os =>
    cases b' with
    | int i =>
      obtain ⟨p, vs, rfl, hp, q⟩ := r1'
      obtain ⟨j, hj, hx⟩ := Option.bind_eq_some_iff.mp (show ((idx os.length i).bind fun k => os[k]?) = some o from e)
      obtain ⟨u, fu, hu, ru⟩ := q.get hx
      refine .inr (.inl ⟨p, vs, i, u, rfl, q2, .inl (.inl (g2.sub _ _ hp)), atI_of (n := os.length) q.len.symm ?_, fin u fu ru⟩)
      rw [hj]; exact hu
    | _ => simp [itemO] at e
  | _ => cases b' <;> simp [itemO] at e

theorem putF_lookup : True := trivial
theorem RepFf.get : ∀ {c : String} {fs : List (String × D)} {fvs : List (Str × V)} {f : String} {d : D}, RepFf Γ F c fs fvs → getF fs f = some d → ∃ v, fvs.lookup (Str.ofString f) = some v ∧ RepF Γ F d v ∧ f ∈ attrsOf c
  | _, [], _, _, _, _, h => by simp [getF] at h
  | c, (k, d') :: r, _, f, d, ⟨v, vr, e, hc, p, q⟩, h => by
    subst e
    by_cases hf : f = k
    · subst hf
      simp [getF] at h
      subst h
      exact ⟨v, by simp [List.lookup], p, hc⟩
    · have h' : getF r f = some d := by simpa [getF, hf] using h
      obtain ⟨u, hu, ru, hm⟩ := RepFf.get q h'
      refine ⟨u, ?_, ru, hm⟩
      rw [List.lookup_cons]
      have : (Str.ofString f == Str.ofString k) = false := by
        rw [beq_eq_false_iff_ne]
        intro z
        rw [Str.ofString_eq_toList, Str.ofString_eq_toList] at z
        have z2 : f.toList.map Char.toNat = k.toList.map Char.toNat := by
          have := congrArg (fun s : Str => s.cps.toList) z
          simpa using this
        have inj : ∀ {l m : List Char}, l.map Char.toNat = m.map Char.toNat → l = m := by
          intro l
          induction l with
          | nil => intro m h; cases m with
            | nil => rfl
            | cons _ _ => simp at h
          | cons a t ih =>
            intro m h
            cases m with
            | nil => simp at h
            | cons b u =>
              simp only [List.map_cons, List.cons.injEq] at h
              have : a = b := Char.toNat_inj.mp h.1
              rw [this, ih h.2]
        exact hf (String.toList_inj.mp (inj z2))
      rw [this]
      exact hu
theorem RepOf.get : ∀ {c : String} {fs : List (String × O)} {fvs : List (Str × V)} {fp : List Addr} {f : String} {o : O}, RepOf Γ F H c fs fvs fp → getF fs f = some o → ∃ v fu, fvs.lookup (Str.ofString f) = some v ∧ RepO Γ F H o v fu ∧ f ∈ attrsOf c
  | _, [], _, _, _, _, _, h => by simp [getF] at h
  | c, (k, d') :: r, _, _, f, d, ⟨v, vr, f1, f2, e, hc, _, p, q⟩, h => by
    subst e
    by_cases hf : f = k
    · subst hf
      simp [getF] at h
      subst h
      exact ⟨v, f1, by simp [List.lookup], p, hc⟩
    · have h' : getF r f = some d := by simpa [getF, hf] using h
      obtain ⟨u, fu, hu, ru, hm⟩ := RepOf.get q h'
      refine ⟨u, fu, ?_, ru, hm⟩
      rw [List.lookup_cons]
      have : (Str.ofString f == Str.ofString k) = false := by
        rw [beq_eq_false_iff_ne]
        intro z
        rw [Str.ofString_eq_toList, Str.ofString_eq_toList] at z
        have z2 : f.toList.map Char.toNat = k.toList.map Char.toNat := by
          have := congrArg (fun s : Str => s.cps.toList) z
          simpa using this
        have inj : ∀ {l m : List Char}, l.map Char.toNat = m.map Char.toNat → l = m := by
          intro l
          induction l with
          | nil => intro m h; cases m with
            | nil => rfl
            | cons _ _ => simp at h
          | cons a t ih =>
            intro m h
            cases m with
            | nil => simp at h
            | cons b u =>
              simp only [List.map_cons, List.cons.injEq] at h
              have : a = b := Char.toNat_inj.mp h.1
              rw [this, ih h.2]
        exact hf (String.toList_inj.mp (inj z2))
      rw [this]
      exact hu
/-- the classes as the top has made them -/
structure ClsOk (K : PySem.W.Frag) (ct : CT) : Prop where
  cls : ∀ c C, ct c = some C → Cls K C
  no : ∀ c C f, ct c = some C → f ∈ attrsOf c → NoAttr K C (Str.ofString f)
theorem dp_fld {f : String} (hK : X.K = Γ.K) (hC : ClsOk Γ.K Γ.ct) (ha : DenP X Γ a pa) (hb : attributeBase a (Str.ofString f) X.env (eval a X.env) = eval a X.env := by rfl) : DenP X Γ (.Attribute a (Str.ofString f) pos) (pFld pa f) := pe_imp (pe_fld ha hb) fun σ H Q ⟨ρ, F, Fr, ts, o, g, e, k⟩ => by
  obtain ⟨o1, h1, e⟩ := Option.bind_eq_some_iff.mp e
  refine ⟨ρ, F, Fr, ts, o1, g, h1, fun v1 F1 H1 f1 s1 t1 g1 r1 => ?_⟩
  rw [hK]
  cases o1 with
  | fz d =>
    cases d with
    | ins c fs =>
      obtain ⟨d', hd, rfl⟩ := Option.map_eq_some_iff.mp (show (getF fs f).map .fz = some o from e)
      obtain ⟨⟨p, C, dx, fvs, rfl, hc, hp, q⟩, _⟩ := r1
      obtain ⟨u, hu, ru, hm⟩ := q.get hd
      exact ⟨p, C, dx, fvs, u, rfl, g1.sub _ _ hp, hC.cls _ _ hc, hC.no _ _ _ hc hm, hu, k u F1 H1 [] s1 t1 g1 ⟨ru, rfl⟩⟩
    | _ => simp [fldO] at e
  | ins c fs =>
    obtain ⟨p, C, dx, fvs, f', rfl, hc, hp, _, q⟩ := r1
    obtain ⟨u, fu, hu, ru, hm⟩ := q.get (show getF fs f = some o from e)
    exact ⟨p, C, dx, fvs, u, rfl, hp, hC.cls _ _ hc, hC.no _ _ _ hc hm, hu, k u F1 H1 fu s1 t1 g1 ru⟩
  | _ => simp [fldO] at e

/-! ### values -/
theorem de_p (h : DenP X Γ e pa) : DenE X Γ W e (eP pa) := pe_imp h fun σ H Q ⟨ρ, F, Fr, ts, g, m⟩ => by
  unfold eP at m
  split at m
  · rename_i d hd
    exact ⟨ρ, F, Fr, ts, _, g, hd, fun v F' H' fp s t g' r => m F' H' s v (g'.addF r.1)⟩
  · exact False.elim m
theorem de_frz (i : Nat) {x : Str} (hN : X.N[i]? = some x := by rfl) (hv : Vis X.env.scope x := by first | exact Or.inl rfl | exact Or.inr (Or.inl rfl) | exact Or.inr (Or.inr rfl)) (hd : (x == ("__debug__" : Str)) = false := by decide)
    (hcd : (x == ("__classdict__" : Str)) = false := by decide) : DenE X Γ W (.Name x pos) (eFrz i) := pe_imp (pv i hN hv hd hcd) fun σ H Q ⟨ρ, F, Fr, ts, g, m⟩ => by
  unfold eFrz at m
  split at m
  · rename_i o' ho
    obtain ⟨v, hv, g'⟩ := g.take ho
    obtain ⟨F1, s1, g1⟩ := g'.freeze
    have hi : i < ρ.length := (List.getElem?_eq_some_iff.mp ho).1
    have g2 : GS Γ F1 Fr H σ (ρ.set i none) ((v, .fz o'.fr) :: (v, .fz o'.fr) :: ts) := g1.addF g1.fzF
    have g3 : GS Γ F1 Fr H σ (ρ.set i (some (.fz o'.fr))) ((v, .fz o'.fr) :: ts) := g2.put hi hv
    exact ⟨v, hv, m F1 H s1 v g3⟩
  · exact False.elim m
theorem de_const {t : TE} {d : D} (he : PE X e t) (h : ∀ σ H Q, (∀ v, RepF Γ (fun _ => none) d v → Q v H) → t σ H Q) : DenE X Γ W e (eC d) := pe_imp he fun σ H Q ⟨ρ, F, Fr, ts, g, m⟩ =>
  h σ H Q fun v r => m F H (Sub.refl _) v (g.addF (RepF.mono (fun _ _ z => by cases z) r))
theorem de_int {i : Int} {j : Nat} : DenE X Γ W (.Constant (.int i) j pos) (eC (.int i)) := de_const pe_int fun _ _ _ k => k _ rfl
theorem de_neg {i : Int} {j : Nat} {p : Pos} : DenE X Γ W (.UnaryOp .USub (.Constant (.int i) j p) pos) (eC (.int (-i))) := de_const (pe_un un_neg pe_int) fun _ _ _ k => ⟨i, rfl, k _ rfl⟩
theorem de_bl {i : Bool} {j : Nat} : DenE X Γ W (.Constant (.bool i) j pos) (eC (.bl i)) := de_const pe_bl fun _ _ _ k => k _ rfl
theorem de_non {j : Nat} : DenE X Γ W (.Constant .none j pos) (eC .non) := de_const pe_non fun _ _ _ k => k _ rfl
theorem de_str {x : Str} {s : List Nat} {j : Nat} (h : x = Str' s := by decide +kernel) : DenE X Γ W (.Constant (.str x) j pos) (eC (.str s)) := de_const pe_str fun _ _ _ k => k _ (by rw [h]; rfl)
theorem de_gint {x : Str} {i : Int} {t : Tok} (hg : Gl X x) (hm : X.mg x = some (.int i t)) (hd : (x == ("__debug__" : Str)) = false := by decide) : DenE X Γ W (.Name x pos) (eC (.int i)) := de_const (pe_glob (v := .int i) hg hm ⟨t, rfl⟩ hd) fun _ _ _ k => k _ rfl
theorem de_gstr {x y : Str} {s : List Nat} {t : Tok} (hg : Gl X x) (hm : X.mg x = some (.str y t)) (h : y = Str' s := by decide +kernel) (hd : (x == ("__debug__" : Str)) = false := by decide) : DenE X Γ W (.Name x pos) (eC (.str s)) := de_const (pe_glob (v := .str y) hg hm ⟨t, rfl⟩ hd) fun _ _ _ k => k _ (by rw [h]; rfl)

theorem de_bin {op : Operator} {f : Op2} (ho : Op2S X Γ (binaryOp op) f) (ha : DenE X Γ W a ca) (hb : DenE X Γ W b cb) : DenE X Γ W (.BinOp a op b pos) (e2 f ca cb) := by
  obtain ⟨r, hr, k⟩ := ho
  refine pe_imp (pe_op hr ha hb) fun σ H Q ⟨ρ, F, Fr, ts, g, m⟩ => ⟨ρ, F, Fr, ts, g, m.bind0.mono fun o1 ρ1 F1 H1 s1 m1 v1 g1 => ⟨ρ1, F1, Fr, _, g1, (m1.bind [(v1, o1)]).mono fun o2 ρ2 F2 H2 s2 m2 v2 g2 => ?_⟩⟩
  obtain ⟨o, e, m3⟩ := m2.opt
  exact k g2.g e fun v F' H' s g' => m3 F' H' s v ⟨g2.ok, g'⟩
theorem de_cmp {op : CmpOp} {f : Op2} (ho : Op2S X Γ (compareOp op) f) (ha : DenE X Γ W a ca) (hb : DenE X Γ W b cb) (hm : behindInMarks op b = false := by first | exact nomark _ | rfl) : DenE X Γ W (.Compare a [op] [b] pos) (e2 f ca cb) := by
  obtain ⟨r, hr, k⟩ := ho
  refine pe_imp (pe_cmpR hr ha hb hm) fun σ H Q ⟨ρ, F, Fr, ts, g, m⟩ => ⟨ρ, F, Fr, ts, g, m.bind0.mono fun o1 ρ1 F1 H1 s1 m1 v1 g1 => ⟨ρ1, F1, Fr, _, g1, (m1.bind [(v1, o1)]).mono fun o2 ρ2 F2 H2 s2 m2 v2 g2 => ?_⟩⟩
  obtain ⟨o, e, m3⟩ := m2.opt
  exact k g2.g e fun v F' H' s g' => m3 F' H' s v ⟨g2.ok, g'⟩
end
end FA
namespace FA
open PySem L2
section
variable {X : Cx} {Γ : Wd} {W : WX} {e a b c : Expr} {pos : Pos} {ca cb cc : Ex} {pa pb : Px} {ta tb tc : Tx} {F F' Fr H H' : Hp} {σ : St} {ρ ρ' : Env} {ts : Bag} {v : V} {o : O}

/-! ### subscripts, fields of values -/
theorem de_item (hK : X.K = Γ.K) (ha : DenE X Γ W a ca) (hb : DenE X Γ W b cb) (hs : PlainIx b) : DenE X Γ W (.Subscript a b pos) (e2 opItem ca cb) := by
  obtain ⟨r, hr, k⟩ := s_item (X := X) (Γ := Γ)
  refine pe_imp (pe_ix hr ha hb hs) fun σ H Q ⟨ρ, F, Fr, ts, g, m⟩ => ⟨ρ, F, Fr, ts, g, m.bind0.mono fun o1 ρ1 F1 H1 s1 m1 v1 g1 => ⟨ρ1, F1, Fr, _, g1, (m1.bind [(v1, o1)]).mono fun o2 ρ2 F2 H2 s2 m2 v2 g2 => ?_⟩⟩
  obtain ⟨o, e, m3⟩ := m2.opt
  exact k hK g2.g e fun v F' H' s g' => m3 F' H' s v ⟨g2.ok, g'⟩
/-- a in p, p looked at where it stands -/
theorem de_inP {op : CmpOp} {f : Op2} (ho : Op2B X Γ (compareOp op) f) (ha : DenE X Γ W a ca) (hb : DenP X Γ b pb) (hm : behindInMarks op b = false := by first | exact nomark _ | rfl) : DenE X Γ W (.Compare a [op] [b] pos) (e2P f ca pb) := by
  obtain ⟨r, hop, k⟩ := ho
  refine pe_imp (pe_cmpR hop ha hb hm) fun σ H Q ⟨ρ, F, Fr, ts, g, m⟩ => ⟨ρ, F, Fr, ts, g, m.bind0.mono fun o1 ρ1 F1 H1 s1 m1 v1 g1 => ?_⟩
  split at m1
  · rename_i y hy
    refine ⟨ρ1, F1, Fr, _, y, g1, hy, fun v2 F2 H2 fp s2 t2 g2 r2 => ?_⟩
    obtain ⟨o, e, m3⟩ := m1.opt
    exact k g2.view (r2.view g2.sub) e fun x hx => m3 F2 H2 s2 (.bl x) (g2.tail.addF (d := .bl x) rfl |> fun z => by rw [hx]; exact z)
  · exact False.elim m1

/-! ### argument lists, displays -/
theorem da_nil : DenA X Γ W [] [] := pa_imp pa_nil fun σ H Q ⟨ρ, F, Fr, ts, g, m⟩ => m F H (Sub.refl _) [] rfl g
theorem da_cons {es : List Expr} {cs : List Ex} (ha : DenE X Γ W e ca) (hr : DenA X Γ W es cs) (hs : starEach (e :: es) X.env = (false, eval e X.env) :: starEach es X.env := by rfl) : DenA X Γ W (e :: es) (ca :: cs) := by
  refine pa_imp (pa_cons ha hr hs) fun σ H Q ⟨ρ, F, Fr, ts, g, m⟩ => ⟨ρ, F, Fr, ts, g, (Post.bind0 m).mono fun o1 ρ1 F1 H1 s1 m1 v1 g1 => ?_⟩
  refine ⟨ρ1, F1, Fr, _, g1, (Post.bind [(v1, o1)] m1).mono fun os ρ2 F2 H2 s2 m2 vs hl g2 => ?_⟩
  exact m2 F2 H2 (Sub.refl _) (v1 :: vs) (by simp [hl]) (g2.perm List.perm_middle)
theorem eAll_len : ∀ {cs : List Ex} {ρ ρ' : Env} {os : List O}, eAll cs ρ = .ok os ρ' → os.length = cs.length
  | [], _, _, _, e => by cases e; rfl
  | c :: r, ρ, _, _, e => by
    unfold eAll at e
    cases h : c ρ with
    | ok x ρ1 =>
      rw [h] at e
      cases h2 : eAll r ρ1 with
      | ok xs ρ2 =>
        have e' : (eAll r ρ1).bind (fun xs ρ => R.ok (x :: xs) ρ) = _ := e
        rw [h2] at e'
        cases e'
        simp [eAll_len h2]
      | exc y ds ρ2 =>
        have e' : (eAll r ρ1).bind (fun xs ρ => R.ok (x :: xs) ρ) = _ := e
        rw [h2] at e'; cases e'
      | st =>
        have e' : (eAll r ρ1).bind (fun xs ρ => R.ok (x :: xs) ρ) = _ := e
        rw [h2] at e'; cases e'
    | exc x ds ρ1 => rw [h] at e; cases e
    | st => rw [h] at e; cases e
theorem few {n : Nat} (h : n ≤ 1000) : n ≤ sizeLine := by rw [sizeLine_eq]; omega
theorem de_lst {es : List Expr} {cs : List Ex} (h : DenA X Γ W es cs) (hn : cs.length ≤ 1000 := by simp; done) : DenE X Γ W (.List es pos) (eLst cs) := by
  refine pe_imp (pe_lst h) fun σ H Q ⟨ρ, F, Fr, ts, g, m⟩ => ⟨ρ, F, Fr, ts, g, (Post.bind0 m).monoE fun os ρ1 F1 H1 e1 s1 m1 vs hl g1 => ⟨?_, fun p hp => m1 F1 _ (Sub.refl _) (.ref p) ⟨g1.ok, ?_⟩⟩⟩
  · rw [hl, eAll_len e1]; exact few hn
  · have := g1.g
    rw [List.append_assoc] at this
    exact G.mkLO this hl hp
theorem allFz_rep : ∀ {os : List O} {ds : List D} {vs : List V} {its : Bag}, allFz os = some ds → vs.length = os.length → G Γ F Fr H [] (vs.zip os ++ its) → RepFs Γ F ds vs ∧ G Γ F Fr H [] its
  | [], _, [], _, e, _, g => by cases e; exact ⟨rfl, g⟩
  | [], _, _ :: _, _, _, l, _ => by simp at l
  | _ :: _, _, [], _, _, l, _ => by simp at l
  | o :: r, ds, v :: vr, its, e, l, g => by
    cases o with
    | fz d =>
      obtain ⟨ds', h, rfl⟩ := Option.map_eq_some_iff.mp (show (allFz r).map (d :: ·) = some ds by simpa [allFz, isFz] using e)
      have g' : G Γ F Fr H [] ((v, .fz d) :: (vr.zip r ++ its)) := g
      obtain ⟨a, b⟩ := allFz_rep h (by simpa using l) g'.tail
      exact ⟨⟨v, vr, rfl, g'.fzF, a⟩, b⟩
    | _ => simp [allFz, isFz] at e
theorem de_tup {es : List Expr} {k : Nat} {cs : List Ex} (h : DenA X Γ W es cs) (hn : cs.length ≤ 1000 := by simp; done) : DenE X Γ W (.Tuple es k pos) (eTup cs) := by
  refine pe_imp (pe_tup h) fun σ H Q ⟨ρ, F, Fr, ts, g, m⟩ => ⟨ρ, F, Fr, ts, g, (Post.bind0 m).monoE fun os ρ1 F1 H1 e1 s1 m1 vs hl g1 => ⟨?_, fun p hp => ?_⟩⟩
  · rw [hl, eAll_len e1]; exact few hn
  · have g0 := g1.g
    rw [List.append_assoc] at g0
    unfold tupO at m1
    cases e : allFz os with
    | some ds =>
      rw [e] at m1
      obtain ⟨r, g2⟩ := allFz_rep e hl g0
      obtain ⟨F2, s2, g3⟩ := G.mkT (p := p) g2 r hp
      exact m1 F2 _ s2 (.ref p) ⟨g1.ok, g3⟩
    | none =>
      rw [e] at m1
      obtain ⟨a1, a2, a3, fp, nd, al, r⟩ := g0.newF (p := p) (u := .tup vs) hp
      obtain ⟨f1, f2, rfl, r1, r2⟩ := r.split
      exact m1 _ _ (g0.newSub hp) (.ref p) ⟨g1.ok, a1, a2, a3, f1 ++ f2, nd, al, f1, f2, rfl, ⟨p, vs, rfl, upd_same, .ofL hl r1⟩, r2⟩

/-! ### tests -/
theorem truV_of (hK : X.K = Γ.K) {d : D} {b : Bool} (r : RepF Γ H d v) (h : truD d = some b) : TruV X.K v H b := by
  cases d with
  | non => rw [show v = _ from r]; cases h; rfl
  | bl x => rw [show v = _ from r]; cases h; rfl
  | int i => rw [show v = _ from r]; cases h; rfl
  | str s =>
    rw [show v = _ from r]
    simp only [truD] at h
    split at h
    · rename_i hz
      cases h
      refine ⟨by rw [Str'_len, ← line_eq]; exact hz, ?_⟩
      rw [Str'_len]
      rw [Bool.eq_iff_iff]; simp
    · cases h
  | lst ds =>
    obtain ⟨a, vs, rfl, e, q⟩ := r
    cases h
    refine .inl ⟨vs, .inl (.inl e), ?_⟩
    have := q.len
    cases ds <;> cases vs <;> first | rfl | simp at this
  | tup ds =>
    obtain ⟨a, vs, rfl, e, q⟩ := r
    cases h
    refine .inr (.inl ⟨vs, .inl (.inl e), ?_⟩)
    have := q.len
    cases ds <;> cases vs <;> first | rfl | simp at this
  | _ => simp [truD] at h
theorem dt_e (hK : X.K = Γ.K) (h : DenE X Γ W a ca) (he : ∀ whole, isTrue a X.env whole = (do let v ← whole; standAt a.pos; holding [v] (truthy v)) := by intro _; rfl) : DenT X Γ W a (tE ca) := by
  refine pt_imp (pt_truth h he) fun σ H Q ⟨ρ, F, Fr, ts, g, m⟩ => ⟨ρ, F, Fr, ts, g, (Post.bind0 m).mono fun o1 ρ1 F1 H1 s1 m1 v1 g1 => ?_⟩
  obtain ⟨b, hb, m2⟩ := m1.opt
  exact ⟨b, truV_of hK g1.view hb, m2 F1 H1 (Sub.refl _) g1.tail⟩
theorem dt_p (hK : X.K = Γ.K) (h : DenP X Γ a pa) (he : ∀ whole, isTrue a X.env whole = (do let v ← whole; standAt a.pos; holding [v] (truthy v)) := by intro _; rfl) : DenT X Γ W a (tP pa) := by
  refine pt_imp (pt_truth h he) fun σ H Q ⟨ρ, F, Fr, ts, g, m⟩ => ?_
  unfold tP at m
  split at m
  · rename_i x hx
    obtain ⟨b, hb, m2⟩ := m.opt
    exact ⟨ρ, F, Fr, ts, x, g, hx, fun v F' H' fp s t g' r => ⟨b, truV_of hK (r.view g'.sub) hb, m2 F' H' s g'⟩⟩
  · exact False.elim m
theorem bool_of {o : O} {b : Bool} (g : GS Γ F Fr H σ ρ ((v, o) :: ts)) (h : truD o.fr = some b) (hb : ∃ x, v = .bl x) : v = .bl b := by
  obtain ⟨x, rfl⟩ := hb
  have r := g.view
  generalize o.fr = d at *
  cases d with
  | bl y => cases h; exact r
  | non => cases (show V.bl x = .non from r)
  | int i => cases (show V.bl x = .int i from r)
  | str s => cases (show V.bl x = .str _ from r)
  | lst _ => obtain ⟨_, _, z, _⟩ := r; cases z
  | tup _ => obtain ⟨_, _, z, _⟩ := r; cases z
  | dic _ => obtain ⟨_, _, z, _⟩ := r; cases z
  | ins _ _ => obtain ⟨_, _, _, _, z, _⟩ := r; cases z
  | scr _ => obtain ⟨_, z, _⟩ := r; cases z
/-- a comparison as a test: what it gives is a bool -/
theorem dt_b {t : TE} (ht : PT X a (tTest t)) (hi : ∀ σ H Q, tD Γ W ca σ H Q → t σ H Q) (hb : ∀ ρ o ρ', ca ρ = .ok o ρ' → ∃ b, o = boolO b) : DenT X Γ W a (tE ca) := by
  refine pt_imp ht fun σ H Q ⟨ρ, F, Fr, ts, g, m⟩ => hi σ H _ ⟨ρ, F, Fr, ts, g, (Post.bind0 m).monoE fun o1 ρ1 F1 H1 e1 s1 m1 v1 g1 => ?_⟩
  obtain ⟨b, hb', m2⟩ := m1.opt
  obtain ⟨x, rfl⟩ := hb _ _ _ e1
  cases hb'
  exact ⟨_, g1.fzF, m2 F1 H1 (Sub.refl _) g1.tail⟩
theorem e2_bool {f : Op2} (hf : ∀ x y o, f x y = some o → ∃ b, o = boolO b) : ∀ ρ o ρ', e2 f ca cb ρ = .ok o ρ' → ∃ b, o = boolO b := by
  intro ρ o ρ' e
  unfold e2 at e
  cases h : ca ρ with
  | ok x ρ1 =>
    rw [h] at e
    have e' : (cb ρ1).bind (fun y ρ => ofOpt (f x.fr y.fr) ρ) = .ok o ρ' := e
    cases h2 : cb ρ1 with
    | ok y ρ2 =>
      rw [h2] at e'
      have e'' : ofOpt (f x.fr y.fr) ρ2 = .ok o ρ' := e'
      cases h3 : f x.fr y.fr with
      | none => rw [h3] at e''; cases e''
      | some z => rw [h3] at e''; cases e''; exact hf _ _ _ h3
    | exc _ _ _ => rw [h2] at e'; cases e'
    | st => rw [h2] at e'; cases e'
  | exc _ _ _ => rw [h] at e; cases e
  | st => rw [h] at e; cases e
theorem e2P_bool {f : Op2} (hf : ∀ x y o, f x y = some o → ∃ b, o = boolO b) : ∀ ρ o ρ', e2P f ca pb ρ = .ok o ρ' → ∃ b, o = boolO b := by
  intro ρ o ρ' e
  unfold e2P at e
  cases h : ca ρ with
  | ok x ρ1 =>
    rw [h] at e
    have e' : (match pb ρ1 with | some y => ofOpt (f x.fr y.fr) ρ1 | none => .st) = R.ok o ρ' := e
    split at e'
    · rename_i y hy
      cases h3 : f x.fr y.fr with
      | none => rw [h3] at e'; cases e'
      | some z => rw [h3] at e'; cases e'; exact hf _ _ _ h3
    · cases e'
  | exc _ _ _ => rw [h] at e; cases e
  | st => rw [h] at e; cases e
def OpB (f : Op2) : Prop := ∀ x y o, f x y = some o → ∃ b, o = boolO b
theorem ob_eq : OpB opEq := fun x y o e => by unfold opEq at e; split at e <;> simp at e; exact ⟨_, e.symm⟩
theorem ob_ne : OpB opNe := fun x y o e => by unfold opNe at e; split at e <;> simp at e; exact ⟨_, e.symm⟩
theorem ob_lt : OpB opLt := fun x y o e => by
  unfold opLt at e
  split at e
  · simp at e; exact ⟨_, e.symm⟩
  · obtain ⟨b, _, rfl⟩ := Option.map_eq_some_iff.mp e; exact ⟨b, rfl⟩
theorem ob_gt : OpB opGt := fun x y o e => by
  unfold opGt at e
  split at e
  · simp at e; exact ⟨_, e.symm⟩
  · cases e
theorem ob_le : OpB opLe := fun x y o e => by
  unfold opLe at e
  split at e
  · simp at e; exact ⟨_, e.symm⟩
  · cases e
theorem ob_ge : OpB opGe := fun x y o e => by
  unfold opGe at e
  split at e
  · simp at e; exact ⟨_, e.symm⟩
  · cases e
theorem ob_in : OpB opIn := fun x y o e => by obtain ⟨b, _, rfl⟩ := Option.map_eq_some_iff.mp e; exact ⟨b, rfl⟩
theorem ob_notin : OpB opNotIn := fun x y o e => by obtain ⟨b, _, rfl⟩ := Option.map_eq_some_iff.mp e; exact ⟨!b, rfl⟩
theorem ob_is : OpB opIs := fun x y o e => by obtain ⟨b, _, rfl⟩ := Option.map_eq_some_iff.mp e; exact ⟨b, rfl⟩
theorem ob_isnot : OpB opIsNot := fun x y o e => by obtain ⟨b, _, rfl⟩ := Option.map_eq_some_iff.mp e; exact ⟨!b, rfl⟩
theorem dt_cmp {op : CmpOp} {f : Op2} (ho : Op2S X Γ (compareOp op) f) (hf : OpB f) (ha : DenE X Γ W a ca) (hb : DenE X Γ W b cb) (hm : behindInMarks op b = false := by first | exact nomark _ | rfl) : DenT X Γ W (.Compare a [op] [b] pos) (tE (e2 f ca cb)) := by
  obtain ⟨r, hr, k⟩ := ho
  refine dt_b (pt_cmpR hr ha hb hm) (fun σ H Q ⟨ρ, F, Fr, ts, g, m⟩ => ⟨ρ, F, Fr, ts, g, m.bind0.mono fun o1 ρ1 F1 H1 s1 m1 v1 g1 => ⟨ρ1, F1, Fr, _, g1, (m1.bind [(v1, o1)]).mono fun o2 ρ2 F2 H2 s2 m2 v2 g2 => ?_⟩⟩) (e2_bool hf)
  obtain ⟨o, e, m3⟩ := m2.opt
  exact k g2.g e fun v F' H' s g' => m3 F' H' s v ⟨g2.ok, g'⟩
theorem dt_inP {op : CmpOp} {f : Op2} (ho : Op2B X Γ (compareOp op) f) (hf : OpB f) (ha : DenE X Γ W a ca) (hb : DenP X Γ b pb) (hm : behindInMarks op b = false := by first | exact nomark _ | rfl) : DenT X Γ W (.Compare a [op] [b] pos) (tE (e2P f ca pb)) := by
  obtain ⟨r, hop, k⟩ := ho
  refine dt_b (pt_cmpR hop ha hb hm) (fun σ H Q ⟨ρ, F, Fr, ts, g, m⟩ => ⟨ρ, F, Fr, ts, g, m.bind0.mono fun o1 ρ1 F1 H1 s1 m1 v1 g1 => ?_⟩) (e2P_bool hf)
  split at m1
  · rename_i y hy
    refine ⟨ρ1, F1, Fr, _, y, g1, hy, fun v2 F2 H2 fp s2 t2 g2 r2 => ?_⟩
    obtain ⟨o, e, m3⟩ := m1.opt
    exact k g2.view (r2.view g2.sub) e fun x hx => m3 F2 H2 s2 (.bl x) (g2.tail.addF (d := .bl x) rfl |> fun z => by rw [hx]; exact z)
  · exact False.elim m1
theorem dt_not (h : DenT X Γ W a ta) : DenT X Γ W (.UnaryOp .Not a pos) (tNot ta) := by
  refine pt_imp (pt_not h) fun σ H Q ⟨ρ, F, Fr, ts, g, m⟩ => ⟨ρ, F, Fr, ts, g, (Post.bind0 m).mono fun b ρ1 F1 H1 s1 m1 g1 => ?_⟩
  exact m1 F1 H1 (Sub.refl _) g1
abbrev DenW (X : Cx) (Γ : Wd) (W : WX) (e : Expr) (c : Tx) : Prop := PW X e (tDT Γ W c)
theorem pw_imp {t t' : TT} (h : PW X e t) (i : ∀ σ H Q, t' σ H Q → t σ H Q) : PW X e t' := ⟨fun wh pins s σ H Q I q => h.run wh pins s σ H Q I (i σ H Q q)⟩
theorem dw_and {rest : List Expr} (ha : DenT X Γ W a ta) (hb : DenW X Γ W (.BoolOp .And (b :: rest) pos) tb) : DenW X Γ W (.BoolOp .And (a :: b :: rest) pos) (tAnd ta tb) := by
  refine pw_imp (pw_and ha hb) fun σ H Q ⟨ρ, F, Fr, ts, g, m⟩ => ⟨ρ, F, Fr, ts, g, (Post.bind0 m).mono fun x ρ1 F1 H1 s1 m1 g1 => ?_⟩
  cases x with
  | true => exact iteT ⟨ρ1, F1, Fr, ts, g1, m1⟩
  | false => exact iteF (m1 F1 H1 (Sub.refl _) g1)
theorem dw_or {rest : List Expr} (ha : DenT X Γ W a ta) (hb : DenW X Γ W (.BoolOp .Or (b :: rest) pos) tb) : DenW X Γ W (.BoolOp .Or (a :: b :: rest) pos) (tOr ta tb) := by
  refine pw_imp (pw_or ha hb) fun σ H Q ⟨ρ, F, Fr, ts, g, m⟩ => ⟨ρ, F, Fr, ts, g, (Post.bind0 m).mono fun x ρ1 F1 H1 s1 m1 g1 => ?_⟩
  cases x with
  | true => exact iteT (m1 F1 H1 (Sub.refl _) g1)
  | false => exact iteF ⟨ρ1, F1, Fr, ts, g1, m1⟩
theorem dw_and1 (ha : DenT X Γ W a ta) : DenW X Γ W (.BoolOp .And [a] pos) ta := pw_and1 ha
theorem dw_or1 (ha : DenT X Γ W a ta) : DenW X Γ W (.BoolOp .Or [a] pos) ta := pw_or1 ha
theorem dt_w (h : DenW X Γ W e tc) : DenT X Γ W e tc := h.pt
/-! ### and, or, not, if as values -/
theorem de_one {op : BoolOp} (h : DenE X Γ W a ca) : DenE X Γ W (.BoolOp op [a] pos) ca := pe_one h
theorem de_and {rest : List Expr} (ha : DenE X Γ W a ca) (hb : DenE X Γ W (.BoolOp .And (b :: rest) pos) cb) : DenE X Γ W (.BoolOp .And (a :: b :: rest) pos) (eAnd ca cb) := by
  refine pe_imp (pe_and ha hb) fun σ H Q ⟨ρ, F, Fr, ts, g, m⟩ => ⟨ρ, F, Fr, ts, g, (Post.bind0 m).mono fun x ρ1 F1 H1 s1 m1 v g1 => ?_⟩
  split at m1
  · exact ⟨true, g1.fzF, iteT ⟨ρ1, F1, Fr, ts, g1.tail, m1⟩⟩
  · exact ⟨false, g1.fzF, iteF (m1 F1 H1 (Sub.refl _) (.bl false) (g1.tail.addF (d := .bl false) rfl))⟩
  · exact False.elim m1
theorem de_or {rest : List Expr} (ha : DenE X Γ W a ca) (hb : DenE X Γ W (.BoolOp .Or (b :: rest) pos) cb) : DenE X Γ W (.BoolOp .Or (a :: b :: rest) pos) (eOr ca cb) := by
  refine pe_imp (pe_or ha hb) fun σ H Q ⟨ρ, F, Fr, ts, g, m⟩ => ⟨ρ, F, Fr, ts, g, (Post.bind0 m).mono fun x ρ1 F1 H1 s1 m1 v g1 => ?_⟩
  split at m1
  · exact ⟨false, g1.fzF, iteF ⟨ρ1, F1, Fr, ts, g1.tail, m1⟩⟩
  · exact ⟨true, g1.fzF, iteT (m1 F1 H1 (Sub.refl _) (.bl true) (g1.tail.addF (d := .bl true) rfl))⟩
  · exact False.elim m1
theorem de_not (ha : DenE X Γ W a ca) : DenE X Γ W (.UnaryOp .Not a pos) (eNot ca) := by
  refine pe_imp (pe_not ha) fun σ H Q ⟨ρ, F, Fr, ts, g, m⟩ => ⟨ρ, F, Fr, ts, g, (Post.bind0 m).mono fun x ρ1 F1 H1 s1 m1 v g1 => ?_⟩
  split at m1
  · exact ⟨_, g1.fzF, m1 F1 H1 (Sub.refl _) (.bl _) (g1.tail.addF (d := .bl _) rfl)⟩
  · exact False.elim m1
theorem de_if (ht : DenT X Γ W c tc) (ha : DenE X Γ W a ca) (hb : DenE X Γ W b cb) : DenE X Γ W (.IfExp c a b pos) (eIf tc ca cb) := by
  refine pe_imp (pe_ifExp ht ha hb) fun σ H Q ⟨ρ, F, Fr, ts, g, m⟩ => ⟨ρ, F, Fr, ts, g, (Post.bind0 m).mono fun x ρ1 F1 H1 s1 m1 g1 => ?_⟩
  cases x with
  | true => exact iteT ⟨ρ1, F1, Fr, ts, g1, m1⟩
  | false => exact iteF ⟨ρ1, F1, Fr, ts, g1, m1⟩
end
end FA
namespace FA
open PySem L2
section
variable {X : Cx} {Γ : Wd} {W : WX} {e a b c : Expr} {pos p : Pos} {x : Str} {ca cb cc : Ex} {pa pb : Px} {ta tb tc : Tx} {F F' Fr H H' : Hp} {σ : St} {ρ ρ' : Env} {ts : Bag} {v : V} {o : O}

/-! ### calls of built-ins -/
theorem de_callB {id : String} {f : Op1} (ho : Op1C X Γ (.builtin id) f) (hg : Gl X x) (hm : X.mg x = none) (hv : bootBuiltins x = some (.builtin id)) (ha : DenE X Γ W a ca) (hs : starEach [a] X.env = (false, eval a X.env) :: starEach [] X.env := by rfl)
    (hn : x ≠ "__name__" := by decide) (hdb : (x == ("__debug__" : Str)) = false := by decide) : DenE X Γ W (.Call (.Name x p) [a] [] pos) (e1 f ca) := by
  obtain ⟨r, hr, k⟩ := ho
  refine pe_imp (pe_callB hr hg hm hv (pa_cons ha pa_nil hs) hn hdb hs) fun σ H Q ⟨ρ, F, Fr, ts, g, m⟩ => ⟨ρ, F, Fr, ts, g, (Post.bind0 m).mono fun o1 ρ1 F1 H1 s1 m1 v1 g1 => ?_⟩
  obtain ⟨o, e, m3⟩ := m1.opt
  exact k g1.g e fun v F' H' s g' => m3 F' H' s v ⟨g1.ok, g'⟩
theorem de_callT {T : String} {f : Op1} (ho : Op1C X Γ (.type T) f) (hg : Gl X x) (hm : X.mg x = none) (hv : bootBuiltins x = some (.type T)) (ha : DenE X Γ W a ca) (hs : starEach [a] X.env = (false, eval a X.env) :: starEach [] X.env := by rfl)
    (hn : x ≠ "__name__" := by decide) (hdb : (x == ("__debug__" : Str)) = false := by decide) : DenE X Γ W (.Call (.Name x p) [a] [] pos) (e1 f ca) := by
  obtain ⟨r, hr, k⟩ := ho
  refine pe_imp (pe_callTy hr hg hm hv (pa_cons ha pa_nil hs) hn hdb hs) fun σ H Q ⟨ρ, F, Fr, ts, g, m⟩ => ⟨ρ, F, Fr, ts, g, (Post.bind0 m).mono fun o1 ρ1 F1 H1 s1 m1 v1 g1 => ?_⟩
  obtain ⟨o, e, m3⟩ := m1.opt
  exact k g1.g e fun v F' H' s g' => m3 F' H' s v ⟨g1.ok, g'⟩
theorem lenV_of (hK : X.K = Γ.K) {d : D} {n : Nat} (r : RepF Γ H d v) (h : lenD d = some n) : LenV X.K v H n := by
  cases d with
  | str s =>
    rw [show v = _ from r]
    simp only [lenD] at h
    split at h
    · rename_i hz
      cases h
      exact ⟨by rw [Str'_len, ← line_eq]; exact hz, (Str'_len s).symm⟩
    · cases h
  | lst ds =>
    obtain ⟨a, vs, rfl, e, q⟩ := r
    cases h
    exact .inl ⟨vs, .inl (.inl e), q.len.symm⟩
  | tup ds =>
    obtain ⟨a, vs, rfl, e, q⟩ := r
    cases h
    exact .inr ⟨vs, .inl (.inl e), q.len.symm⟩
  | scr ns =>
    obtain ⟨a, rfl, e⟩ := r
    cases h
    exact .inl ⟨_, by rw [hK]; exact e, by simp⟩
  | _ => simp [lenD] at h
theorem c_len (hK : X.K = Γ.K) : Op1C X Γ (.builtin "len") opLen := by
  refine ⟨_, call_len, fun {F Fr H L its v1 o1 o Q} g e k => ?_⟩
  obtain ⟨n, hn, rfl⟩ := Option.map_eq_some_iff.mp e
  exact ⟨_, n, rfl, lenV_of hK (G.view g) hn, k _ F H (Sub.refl _) (G.addF (d := .int n) (G.tail g) rfl)⟩
theorem de_lenP (hK : X.K = Γ.K) (hg : Gl X "len") (hm : X.mg "len" = none) (ha : DenP X Γ a pa) (hs : starEach [a] X.env = (false, eval a X.env) :: starEach [] X.env := by rfl) : DenE X Γ W (.Call (.Name "len" p) [a] [] pos) (e1P opLen pa) := by
  refine pe_imp (pe_callB call_len hg hm boot_len (pa_cons ha pa_nil hs) (by decide) (by decide) hs) fun σ H Q ⟨ρ, F, Fr, ts, g, m⟩ => ?_
  unfold e1P at m
  split at m
  · rename_i y hy
    refine ⟨ρ, F, Fr, ts, y, g, hy, fun v F' H' fp s t g' r => ?_⟩
    obtain ⟨o, e, m2⟩ := m.opt
    obtain ⟨n, hn, rfl⟩ := Option.map_eq_some_iff.mp e
    exact ⟨_, n, rfl, lenV_of hK (r.view g'.sub) hn, m2 F' H' s (.int n) (g'.addF (d := .int n) rfl)⟩
  · exact False.elim m
theorem dp_len (hK : X.K = Γ.K) (hg : Gl X "len") (hm : X.mg "len" = none) (ha : DenP X Γ a pa) (hs : starEach [a] X.env = (false, eval a X.env) :: starEach [] X.env := by rfl) : DenP X Γ (.Call (.Name "len" p) [a] [] pos) (pLen pa) := by
  refine pe_imp (pe_callB call_len hg hm boot_len (pa_cons ha pa_nil hs) (by decide) (by decide) hs) fun σ H Q ⟨ρ, F, Fr, ts, o, g, e, k⟩ => ?_
  obtain ⟨y, hy, e⟩ := Option.bind_eq_some_iff.mp e
  refine ⟨ρ, F, Fr, ts, y, g, hy, fun v F' H' fp s t g' r => ?_⟩
  obtain ⟨n, hn, rfl⟩ := Option.map_eq_some_iff.mp e
  exact ⟨_, n, rfl, lenV_of hK (r.view g'.sub) hn, k (.int n) F' H' [] s t g' ⟨rfl, rfl⟩⟩
theorem bools_rep : ∀ {ds : List D} {bs : List Bool} {vs : List V}, boolsOf ds = some bs → RepFs Γ H ds vs → vs = bs.map V.bl
  | [], _, _, e, r => by cases e; rw [show _ = _ from r]; rfl
  | d :: t, bs, _, e, ⟨v, vr, ev, p, q⟩ => by
    subst ev
    cases d with
    | bl b =>
      obtain ⟨bs', h, rfl⟩ := Option.map_eq_some_iff.mp (show (boolsOf t).map (b :: ·) = some bs from e)
      rw [bools_rep h q, show v = _ from p]; rfl
    | _ => simp [boolsOf] at e
theorem ints_rep : ∀ {ds : List D} {bs : List Int} {vs : List V}, intsOf ds = some bs → RepFs Γ H ds vs → vs = bs.map V.int
  | [], _, _, e, r => by cases e; rw [show _ = _ from r]; rfl
  | d :: t, bs, _, e, ⟨v, vr, ev, p, q⟩ => by
    subst ev
    cases d with
    | int b =>
      obtain ⟨bs', h, rfl⟩ := Option.map_eq_some_iff.mp (show (intsOf t).map (b :: ·) = some bs from e)
      rw [ints_rep h q, show v = _ from p]; rfl
    | _ => simp [intsOf] at e
theorem c_all (hc : X.calm = true) : Op1C X Γ (.builtin "all") opAll := by
  refine ⟨_, cr_all hc, fun {F Fr H L its v1 o1 o Q} g e k => ?_⟩
  have r := G.view g
  generalize o1.fr = d at *
  cases d with
  | lst ds =>
    obtain ⟨bs, hb, rfl⟩ := Option.map_eq_some_iff.mp (show (boolsOf ds).map (fun l => boolO (l.all id)) = some o from e)
    obtain ⟨a, vs, rfl, ea, q⟩ := r
    exact ⟨a, bs, rfl, by rw [← bools_rep hb q]; exact .inl (.inl ea), k _ F H (Sub.refl _) (G.addF (d := .bl _) (G.tail g) rfl)⟩
  | _ => simp [opAll] at e
theorem c_any (hc : X.calm = true) : Op1C X Γ (.builtin "any") opAny := by
  refine ⟨_, cr_any hc, fun {F Fr H L its v1 o1 o Q} g e k => ?_⟩
  have r := G.view g
  generalize o1.fr = d at *
  cases d with
  | lst ds =>
    obtain ⟨bs, hb, rfl⟩ := Option.map_eq_some_iff.mp (show (boolsOf ds).map (fun l => boolO (l.any id)) = some o from e)
    obtain ⟨a, vs, rfl, ea, q⟩ := r
    exact ⟨a, bs, rfl, by rw [← bools_rep hb q]; exact .inl (.inl ea), k _ F H (Sub.refl _) (G.addF (d := .bl _) (G.tail g) rfl)⟩
  | _ => simp [opAny] at e
theorem sumI_eq (l : List Int) : sumI l = l.sum := by induction l with
  | nil => rfl
  | cons i r ih => simp [sumI, ih]
theorem c_sum (hc : X.calm = true) : Op1C X Γ (.builtin "sum") opSum := by
  refine ⟨_, cr_sum hc, fun {F Fr H L its v1 o1 o Q} g e k => ?_⟩
  have r := G.view g
  generalize o1.fr = d at *
  cases d with
  | lst ds =>
    obtain ⟨bs, hb, rfl⟩ := Option.map_eq_some_iff.mp (show (intsOf ds).map (fun l => intO (sumI l)) = some o from e)
    obtain ⟨a, vs, rfl, ea, q⟩ := r
    exact ⟨a, bs, rfl, by rw [← ints_rep hb q]; exact .inl (.inl ea), k _ F H (Sub.refl _) (G.addF (d := .int _) (G.tail g) (by rw [sumI_eq]; rfl))⟩
  | _ => simp [opSum] at e
theorem c_int : Op1C X Γ (.type "int") opInt := by
  refine ⟨_, call_int1, fun {F Fr H L its v1 o1 o Q} g e k => ?_⟩
  have r := G.view g
  generalize o1.fr = d at *
  cases d with
  | int i => cases e; exact .inl ⟨i, by rw [show v1 = _ from r], k _ F H (Sub.refl _) (G.addF (d := .int _) (G.tail g) rfl)⟩
  | bl b => cases e; exact .inr ⟨b, by rw [show v1 = _ from r], k _ F H (Sub.refl _) (G.addF (d := .int _) (G.tail g) rfl)⟩
  | _ => simp [opInt] at e
theorem c_abs : Op1C X Γ (.builtin "abs") opAbs := by
  refine ⟨_, call_abs, fun {F Fr H L its v1 o1 o Q} g e k => ?_⟩
  have r := G.view g
  generalize o1.fr = d at *
  cases d with
  | int i => cases e; exact ⟨i, by rw [show v1 = _ from r], k _ F H (Sub.refl _) (G.addF (d := .int _) (G.tail g) rfl)⟩
  | _ => simp [opAbs] at e
theorem c_tuple : Op1C X Γ (.type "tuple") opTuple := by
  refine ⟨_, call_tuple_of, fun {F Fr H L its v1 o1 o Q} g e k => ?_⟩
  obtain ⟨F1, s1, g1, r⟩ := G.freeze1 g
  generalize o1.fr = d at *
  cases d with
  | lst ds =>
    cases e
    obtain ⟨a, vs, rfl, ea, q⟩ := r
    refine ⟨a, vs, rfl, .inl ⟨.inl (.inl (g1.sub _ _ ea)), fun p hp => ?_⟩⟩
    obtain ⟨F2, s2, g2⟩ := G.mkT (p := p) g1 q hp
    exact k _ _ _ (s1.trans s2) g2
  | tup ds =>
    cases e
    obtain ⟨a, vs, rfl, ea, q⟩ := r
    exact ⟨a, vs, rfl, .inr ⟨.inl (.inl (g1.sub _ _ ea)), k _ F1 H s1 (g1.addF (d := .tup ds) ⟨a, vs, rfl, ea, q⟩)⟩⟩
  | _ => simp [opTuple] at e
/-- list(x) of a list, a tuple -/
def opListS : Op1
  | .lst ds => some (.lst (ds.map .fz))
  | .tup ds => some (.lst (ds.map .fz))
  | _ => none
theorem c_list : Op1C X Γ (.type "list") opListS := by
  refine ⟨_, call_list_of, fun {F Fr H L its v1 o1 o Q} g e k => ?_⟩
  obtain ⟨F1, s1, g1, r⟩ := G.freeze1 g
  generalize o1.fr = d at *
  cases d with
  | lst ds =>
    cases e
    obtain ⟨a, vs, rfl, ea, q⟩ := r
    exact ⟨a, vs, rfl, .inl (.inl (.inl (g1.sub _ _ ea))), fun p hp => k _ _ _ s1 (G.mkL g1 q hp)⟩
  | tup ds =>
    cases e
    obtain ⟨a, vs, rfl, ea, q⟩ := r
    exact ⟨a, vs, rfl, .inr (.inl (.inl (g1.sub _ _ ea))), fun p hp => k _ _ _ s1 (G.mkL g1 q hp)⟩
  | _ => simp [opListS] at e
/-! ### isinstance -/
def tyOfD : D → Option String
  | .non => some "NoneType"
  | .bl _ => some "bool"
  | .int _ => some "int"
  | .str _ => some "str"
  | .lst _ => some "list"
  | .tup _ => some "tuple"
  | _ => none
/-- isinstance(x, T), T a built-in one -/
def opIsTy (T : String) : Op1 := fun d => (tyOfD d).bind fun t => (kitB t T).map boolO
theorem tyX_of {K : PySem.W.Frag} {d : D} {t : String} (r : RepF Γ H d v) (h : tyOfD d = some t) : TyX K H v (.type t) := by
  cases d with
  | non => cases h; rw [show v = _ from r]; exact .base .non
  | bl b => cases h; rw [show v = _ from r]; exact .base (.bl b)
  | int i => cases h; rw [show v = _ from r]; exact .base (.int i)
  | str s => cases h; rw [show v = _ from r]; exact .base (.str _)
  | lst ds => cases h; obtain ⟨a, vs, rfl, e, _⟩ := r; exact .base (.lst e)
  | tup ds => cases h; obtain ⟨a, vs, rfl, e, _⟩ := r; exact .base (.tup e)
  | _ => simp [tyOfD] at h
theorem de_isTy {T : String} {pT : Pos} (hg : Gl X "isinstance") (hm : X.mg "isinstance" = none) (hv : bootBuiltins "isinstance" = some (.builtin "isinstance")) (hg2 : Gl X (Str.ofString T)) (hm2 : X.mg (Str.ofString T) = none) (hv2 : bootBuiltins (Str.ofString T) = some (.type T))
    (ha : DenE X Γ W a ca) (hs : starEach [a, .Name (Str.ofString T) pT] X.env = (false, eval a X.env) :: starEach [.Name (Str.ofString T) pT] X.env := by rfl) (hs2 : starEach [.Name (Str.ofString T) pT] X.env = (false, eval (.Name (Str.ofString T) pT) X.env) :: starEach [] X.env := by rfl)
    (hpl : (backTo pos (starEach [.Name (Str.ofString T) pT] X.env)).any (·.1) = false := by rfl) (hn : (Str.ofString T) ≠ "__name__" := by decide) (hdb : ((Str.ofString T) == ("__debug__" : Str)) = false := by decide) :
    DenE X Γ W (.Call (.Name "isinstance" p) [a, .Name (Str.ofString T) pT] [] pos) (e1 (opIsTy T) ca) := by
  refine pe_imp (pe_callB call_isi hg hm hv (pa_cons ha (pa_cons (pe_bltn (v := .ty T) hg2 hm2 hv2 rfl hn hdb) pa_nil hs2) hs) (by decide) (by decide) hs hpl) fun σ H Q ⟨ρ, F, Fr, ts, g, m⟩ => ⟨ρ, F, Fr, ts, g, (Post.bind0 m).mono fun o1 ρ1 F1 H1 s1 m1 v1 g1 => ?_⟩
  obtain ⟨o, e, m3⟩ := m1.opt
  obtain ⟨t, ht, e⟩ := Option.bind_eq_some_iff.mp e
  obtain ⟨bb, hb, rfl⟩ := Option.map_eq_some_iff.mp e
  exact ⟨v1, .ty T, .type t, .type T, bb, rfl, .ty T, tyX_of g1.view ht, kit_ty hb, m3 F1 H1 (Sub.refl _) (.bl bb) (g1.tail.addF (d := .bl bb) rfl)⟩

/-! ### methods -/
theorem strs_rep : ∀ {ds : List D} {l : List (List Nat)} {vs : List V}, strsOf ds = some l → RepFs Γ H ds vs → vs = (l.map Str').map V.str
  | [], _, _, e, r => by cases e; rw [show _ = _ from r]; rfl
  | d :: t, bs, _, e, ⟨v, vr, ev, p, q⟩ => by
    subst ev
    cases d with
    | str b =>
      obtain ⟨bs', h, rfl⟩ := Option.map_eq_some_iff.mp (show (strsOf t).map (b :: ·) = some bs from e)
      rw [strs_rep h q, show v = _ from p]; rfl
    | _ => simp [strsOf] at e
theorem joinL_eq (sep : List Nat) : ∀ l : List (List Nat), TL.joinL sep l = joinL sep l
  | [] => rfl
  | [_] => rfl
  | x :: y :: r => by
    show x ++ (sep ++ TL.joinL sep (y :: r)) = x ++ sep ++ joinL sep (y :: r)
    rw [joinL_eq sep (y :: r), List.append_assoc]
theorem join_eq (sep : List Nat) (l : List (List Nat)) : Txt.join (Str' sep) (l.map Str') = Str' (joinL sep l) := by
  rw [show Txt.join (Str' sep) (l.map Str') = Str.join (Str' sep) (l.map Str') from StrLaws.glued_eq_join _ _]
  apply TL.ext_tl
  rw [TL.tl_join]
  show TL.joinL sep ((l.map Str').map TL.tl) = joinL sep l
  rw [List.map_map]
  have : (TL.tl ∘ Str') = id := by funext x; rfl
  rw [this, List.map_id, joinL_eq]
theorem sizeL_eq (sep : List Nat) : ∀ l : List (List Nat), sizeL sep l = ((l.map Str').map (·.length)).sum + (l.map Str').length * (Str' sep).length
  | [] => by simp [sizeL]
  | x :: r => by
    simp only [sizeL, List.map_cons, List.sum_cons, List.length_cons]
    rw [sizeL_eq sep r, Str'_len, Str'_len]
    simp only [List.length_map, Nat.add_mul, Nat.one_mul]
    omega
/-- the receiver of a method -/
theorem isS_str {o : O} (g : GS Γ F Fr H σ ρ ((v, o) :: ts)) (h : isS o.fr = true) : ∃ s, o.fr = .str s ∧ v = .str (Str' s) := by
  have r := g.view
  generalize o.fr = d at *
  cases d with
  | str s => exact ⟨s, rfl, r⟩
  | _ => simp [isS] at h
theorem de_join {apos : Pos} (ha : DenE X Γ W a ca) (hb : DenE X Γ W b cb) (hs : starEach [b] X.env = [(false, eval b X.env)] := by rfl) (hbase : attributeBase a "join" X.env (eval a X.env) = eval a X.env := by rfl) (hline : (apos.endLine == pos.line) = true := by rfl) :
    DenE X Γ W (.Call (.Attribute a "join" apos) [b] [] pos) (eM isS opJoin ca cb) := by
  refine pe_imp (pe_join ha hb hs hbase hline) fun σ H Q ⟨ρ, F, Fr, ts, g, m⟩ => ⟨ρ, F, Fr, ts, g, (Post.bind0 m).mono fun o1 ρ1 F1 H1 s1 m1 v1 g1 => ?_⟩
  split at m1
  · rename_i hc
    obtain ⟨s, e1, rfl⟩ := isS_str g1 hc
    refine ⟨⟨_, rfl⟩, ρ1, F1, Fr, _, g1, (m1.bind [(V.str (Str' s), o1)]).mono fun o2 ρ2 F2 H2 s2 m2 v2 g2 => ?_⟩
    obtain ⟨o, e, m3⟩ := m2.opt
    have r2 := g2.view
    rw [e1] at e
    generalize o2.fr = d at *
    cases d with
    | lst ds =>
      obtain ⟨l, hl, e⟩ := Option.bind_eq_some_iff.mp (show ((strsOf ds).bind fun l => if sizeL s l ≤ line then some (O.fz (.str (joinL s l))) else none) = some o from e)
      split at e
      · rename_i hz
        cases e
        obtain ⟨p, vs, rfl, hp, q⟩ := r2
        refine ⟨_, p, l.map Str', rfl, rfl, .inl (.inl (.inl ?_)), ?_, m3 F2 H2 (Sub.refl _) _ (g2.tail.tail.addF (d := .str _) (congrArg V.str (join_eq s l)))⟩
        · rw [← strs_rep hl q]; exact hp
        · rw [← sizeL_eq]; exact hz
      · cases e
    | _ => simp [opJoin] at e
  · exact False.elim m1
theorem de_count {apos : Pos} (ha : DenE X Γ W a ca) (hb : DenE X Γ W b cb) (hs : starEach [b] X.env = [(false, eval b X.env)] := by rfl) (hbase : attributeBase a "count" X.env (eval a X.env) = eval a X.env := by rfl) (hline : (apos.endLine == pos.line) = true := by rfl) :
    DenE X Γ W (.Call (.Attribute a "count" apos) [b] [] pos) (eM isS opCount ca cb) := by
  refine pe_imp (pe_m1 PySem.F.slot_str_count PySem.F.type_str_count mt_count ha hb hs hbase hline) fun σ H Q ⟨ρ, F, Fr, ts, g, m⟩ => ⟨ρ, F, Fr, ts, g, (Post.bind0 m).mono fun o1 ρ1 F1 H1 s1 m1 v1 g1 => ?_⟩
  split at m1
  · rename_i hc
    obtain ⟨s, e1, rfl⟩ := isS_str g1 hc
    refine ⟨⟨_, rfl⟩, ρ1, F1, Fr, _, g1, (m1.bind [(V.str (Str' s), o1)]).mono fun o2 ρ2 F2 H2 s2 m2 v2 g2 => ?_⟩
    obtain ⟨o, e, m3⟩ := m2.opt
    have r2 := g2.view
    rw [e1] at e
    generalize o2.fr = d at *
    cases d with
    | str t =>
      match t, e, r2 with
      | [c], e, r2 =>
        cases e
        exact ⟨_, _, rfl, by rw [show v2 = _ from r2], m3 F2 H2 (Sub.refl _) _ (g2.tail.tail.addF (d := .int _) (by rw [count_sign]; rfl))⟩
      | [], e, _ => simp [opCount] at e
      | _ :: _ :: _, e, _ => simp [opCount] at e
    | _ => simp [opCount] at e
  · exact False.elim m1
theorem findD_some {x : D} : ∀ {ds : List D} {k : Nat}, findD ds x = some k → ∃ z, ds[k]? = some z ∧ eqv z x = true ∧ ∀ (i : Nat) z', i < k → ds[i]? = some z' → eqv z' x = false
  | [], _, e => by cases e
  | d :: r, k, e => by
    unfold findD at e
    split at e
    · rename_i h
      cases e
      exact ⟨d, rfl, h, fun i _ hi => by omega⟩
    · rename_i h
      obtain ⟨j, hj, rfl⟩ := Option.map_eq_some_iff.mp e
      obtain ⟨z, h1, h2, h3⟩ := findD_some hj
      refine ⟨z, by simpa using h1, h2, fun i z' hi hz => ?_⟩
      cases i with
      | zero => simp at hz; subst hz; simpa using h
      | succ i => exact h3 i z' (by omega) (by simpa using hz)
theorem de_index (hu : X.A.units + 65 < cLine) {apos : Pos} (ha : DenE X Γ W a ca) (hb : DenE X Γ W b cb) (hs : starEach [b] X.env = [(false, eval b X.env)] := by rfl) (hbase : attributeBase a "index" X.env (eval a X.env) = eval a X.env := by rfl) (hline : (apos.endLine == pos.line) = true := by rfl)
    (hfew : ((backTo pos (starEach [b] X.env)).all (fun x => !x.1) && (backToKw pos (keywordEach [] X.env)).all (fun x => x.1.isSome)
      && decide ([b].length + ([] : List Keyword).length + (if ([] : List Keyword).isEmpty then 0 else 1) < 30)) = true := by rfl) (hs2 : starEach [b] X.env = (false, eval b X.env) :: starEach [] X.env := by rfl) (hplain : (backTo pos (starEach [] X.env)).any (·.1) = false := by rfl) :
    DenE X Γ W (.Call (.Attribute a "index" apos) [b] [] pos) (eM isSL opIndex ca cb) := by
  refine pe_imp (pe_alt (pe_m1 PySem.F.slot_str_index PySem.F.type_str_index mt_sindex ha hb hs hbase hline) (pe_bm PySem.F.plainAttrs_list PySem.F.slot_list_index PySem.F.type_list_index (mt_index.or (mt_indexD hu)) ha (pa_cons hb pa_nil hs2) hbase hfew hline hs2 hplain)) fun σ H Q ⟨ρ, F, Fr, ts, g, m⟩ => ?_
  by_cases hS : ∀ o1 ρ1, ca ρ = .ok o1 ρ1 → isS o1.fr = true
  · left
    refine ⟨ρ, F, Fr, ts, g, (Post.bind0 m).monoE fun o1 ρ1 F1 H1 e1 s1 m1 v1 g1 => ?_⟩
    have hc := hS _ _ e1
    rw [if_pos (by simp [isSL, hc])] at m1
    obtain ⟨s, e1, rfl⟩ := isS_str g1 hc
    refine ⟨⟨_, rfl⟩, ρ1, F1, Fr, _, g1, (m1.bind [(V.str (Str' s), o1)]).mono fun o2 ρ2 F2 H2 s2 m2 v2 g2 => ?_⟩
    obtain ⟨o, e, m3⟩ := m2.opt
    have r2 := g2.view
    rw [e1] at e
    generalize o2.fr = d at *
    cases d with
    | str t =>
      match t, e, r2 with
      | [c], e, r2 =>
        obtain ⟨k, hk, rfl⟩ := Option.map_eq_some_iff.mp e
        obtain ⟨rest, hr⟩ := index_sign hk
        exact ⟨_, _, k, rest, rfl, by rw [show v2 = _ from r2], hr, m3 F2 H2 (Sub.refl _) _ (g2.tail.tail.addF (d := .int _) rfl)⟩
      | [], e, _ => simp [opIndex] at e
      | _ :: _ :: _, e, _ => simp [opIndex] at e
    | _ => simp [opIndex] at e
  · right
    refine ⟨ρ, F, Fr, ts, g, (Post.bind0 m).monoE fun o1 ρ1 F1 H1 e1 s1 m1 v1 g1 => ?_⟩
    have hn : isS o1.fr ≠ true := fun z => hS fun o ρ' e => by rw [e1] at e; cases e; exact z
    split at m1
    · rename_i hc
      have r1 := g1.view
      cases hd1 : o1.fr with
      | lst ds =>
        rw [hd1] at r1
        obtain ⟨p, vs, rfl, hp, q⟩ := id r1
        refine ⟨.inl ⟨rfl, vs, .inl (.inl hp)⟩, ρ1, F1, Fr, _, g1, (m1.bind [(V.ref p, o1)]).mono fun o2 ρ2 F2 H2 s2 m2 v2 g2 => ?_⟩
        obtain ⟨o, e, m3⟩ := m2.opt
        have r2 := g2.view
        have r1 := GS.view g2.tail
        rw [hd1] at e r1
        obtain ⟨p', vs, hpp, hp, q⟩ := r1
        cases hpp
        have e' : (if eqsOk o2.fr ds then (findD ds o2.fr).map (fun (k : Nat) => intO (k : Int)) else none) = some o := by
          generalize o2.fr = d at *
          cases d <;> exact e
        split at e'
        · rename_i hok
          obtain ⟨k, hk, rfl⟩ := Option.map_eq_some_iff.mp e'
          obtain ⟨z, hz, hzx, hbef⟩ := findD_some hk
          have fin : Q (.int (k : Int)) H2 := m3 F2 H2 (Sub.refl _) _ (g2.tail.tail.addF (d := .int _) rfl)
          rcases Bool.or_eq_true_iff.mp (show ((flatD o2.fr && ds.all flatD) || (plain o2.fr && plains ds)) = true from hok) with h | h
          · obtain ⟨h1, h2⟩ := Bool.and_eq_true_iff.mp h
            obtain ⟨ea, fa⟩ := flat_v h1 r2
            obtain ⟨es, fs⟩ := flats_v h2 q
            have all : ∀ (i : Nat) z, ds[i]? = some z → flatD z = true := fun i z hz => List.all_eq_true.mp h2 z (List.mem_of_getElem? hz)
            refine .inl ⟨p, vs, v2, k, vD z, rfl, rfl, .inl (.inl hp), fa, fs, ?_, ?_, fun i z' hi hz' => ?_, fin⟩
            · rw [es, List.getElem?_map, hz]; rfl
            · rw [ea, eqV_v (all _ _ hz) h1]; exact hzx
            · rw [es, List.getElem?_map] at hz'
              obtain ⟨y, hy, rfl⟩ := Option.map_eq_some_iff.mp hz'
              rw [ea, eqV_v (all _ _ hy) h1]; exact hbef i y hi hy
          · obtain ⟨h1, h2⟩ := Bool.and_eq_true_iff.mp h
            have all : ∀ (i : Nat) z, ds[i]? = some z → plain z = true := fun i z hz => List.all_eq_true.mp h2 z (List.mem_of_getElem? hz)
            refine .inr ⟨p, v2, pyD o2.fr, ds.map pyD, k, pyD z, rfl, rfl, dpl_of h2 hp q, dp_of 60 h1 r2, shaped60l h2, shaped60 h1, ?_, ?_, fun i z' hi hz' => ?_, fin⟩
            · rw [List.getElem?_map, hz]; rfl
            · rw [eqv_py 60 (all _ _ hz) h1]; exact hzx
            · rw [List.getElem?_map] at hz'
              obtain ⟨y, hy, rfl⟩ := Option.map_eq_some_iff.mp hz'
              rw [eqv_py 60 (all _ _ hy) h1]; exact hbef i y hi hy
        · cases e'
      | str s => rw [hd1] at hn; exact absurd rfl hn
      | _ => rw [hd1] at hc; simp [isSL, isS, isL] at hc
    · exact False.elim m1
/-! ### slices -/
theorem sIx_lo (n : Nat) (i : Int) : HT.sIx n 0 (some i) = clampI n i := by
  have h := HT.clip_eq i n 0
  unfold clampI
  have : ((HT.sIx n 0 (some i) : Nat) : Int) = (if i < 0 then max (i + (n : Int)) 0 else min i (n : Int)) := h.symm
  by_cases hi : 0 ≤ i
  · rw [if_pos hi]
    rw [if_neg (by omega)] at this
    omega
  · rw [if_neg hi]
    rw [if_pos (by omega)] at this
    omega
theorem sIx_hi (n : Nat) (i : Int) : HT.sIx n n (some i) = clampI n i := by
  have h := HT.clip_eq i n n
  unfold clampI
  have : ((HT.sIx n n (some i) : Nat) : Int) = (if i < 0 then max (i + (n : Int)) 0 else min i (n : Int)) := h.symm
  by_cases hi : 0 ≤ i
  · rw [if_pos hi]
    rw [if_neg (by omega)] at this
    omega
  · rw [if_neg hi]
    rw [if_pos (by omega)] at this
    omega
theorem cut_eq {α : Type} (l : List α) (lo hi : Option Int) : (l.drop (HT.sIx l.length 0 lo)).take (HT.sIx l.length l.length hi - HT.sIx l.length 0 lo) = sliceL l lo hi := by
  unfold sliceL
  have h1 : HT.sIx l.length 0 lo = (match lo with | none => 0 | some i => clampI l.length i) := by
    cases lo with
    | none => exact HT.sIx_none _ _
    | some i => exact sIx_lo _ i
  have h2 : HT.sIx l.length l.length hi = (match hi with | none => l.length | some i => clampI l.length i) := by
    cases hi with
    | none => exact HT.sIx_none _ _
    | some i => exact sIx_hi _ i
  rw [h1, h2, List.drop_take]
  try rfl
abbrev DenO (X : Cx) (Γ : Wd) (W : WX) (e : Option Expr) (c : Option Ex) : Prop := PO X e (fun σ H Q => ∃ ρ F Fr ts, GS Γ F Fr H σ ρ ts ∧ Post Γ W σ F Fr ts (fun i ρ' F' H' => GS Γ F' Fr H' σ ρ' ts → Q i H') (eOpt c ρ))
theorem do_none : DenO X Γ W none none := by
  have h := po_none (X := X)
  exact ⟨fun pins s σ H Q I ⟨ρ, F, Fr, ts, g, m⟩ => h.run pins s σ H Q I (m F H (Sub.refl _) g)⟩
theorem do_some (ha : DenE X Γ W a ca) : DenO X Γ W (some a) (some ca) := by
  have h := po_some ha
  refine ⟨fun pins s σ H Q I ⟨ρ, F, Fr, ts, g, m⟩ => h.run pins s σ H Q I ⟨ρ, F, Fr, ts, g, (Post.bind0 m).mono fun o1 ρ1 F1 H1 s1 m1 v1 g1 => ?_⟩⟩
  split at m1
  · exact ⟨_, g1.fzF, m1 F1 H1 (Sub.refl _) g1.tail⟩
  · exact False.elim m1
theorem RepFs.slice {ds : List D} {vs : List V} {lo hi : Option Int} (r : RepFs Γ F ds vs) : RepFs Γ F (sliceL ds lo hi) (sliceL vs lo hi) := by
  unfold sliceL
  rw [r.len]
  exact (r.take _).dropN _
theorem de_slice {lo hi : Option Expr} {clo chi : Option Ex} {p2 : Pos} (ha : DenE X Γ W a ca) (hl : DenO X Γ W lo clo) (hh : DenO X Γ W hi chi) : DenE X Γ W (.Subscript a (.Slice lo hi none p2) pos) (eSl ca clo chi) := by
  refine pe_imp (pe_slice (sl_list.or (sl_tupA.or sl_str)) ha hl hh) fun σ H Q ⟨ρ, F, Fr, ts, g, m⟩ => ⟨ρ, F, Fr, ts, g, (Post.bind0 m).mono fun o1 ρ1 F1 H1 s1 m1 v1 g1 => ?_⟩
  refine ⟨ρ1, F1, Fr, _, g1, (Post.bind [(v1, o1)] m1).mono fun i ρ2 F2 H2 s2 m2 g2 => ?_⟩
  refine ⟨ρ2, F2, Fr, _, g2, (Post.bind [(v1, o1)] m2).mono fun j ρ3 F3 H3 s3 m3 g3 => ?_⟩
  obtain ⟨o, e, m4⟩ := m3.opt
  have r0 := g3.view
  obtain ⟨F4, s4, g4, r⟩ := G.freeze1 g3.g
  generalize o1.fr = d at *
  cases d with
  | lst ds =>
    cases e
    obtain ⟨p, vs, rfl, hp, q⟩ := r
    refine .inl ⟨p, vs, rfl, .inl (.inl (g4.sub _ _ hp)), fun p' hp' => m4 F4 _ s4 _ ⟨g3.ok, ?_⟩⟩
    have := G.mkL (p := p') g4 (q.slice (lo := i) (hi := j)) hp'
    unfold cutV
    rw [cut_eq]
    exact this
  | tup ds =>
    cases e
    obtain ⟨p, vs, rfl, hp, q⟩ := r
    refine .inr (.inl ⟨p, vs, rfl, .inl (.inl (g4.sub _ _ hp)), fun hw => ?_, fun hw p' hp' => ?_⟩)
    · have e1 : sliceL vs i j = vs := by
        rw [← cut_eq, hw.1, hw.2]
        simp
      have e2 : sliceL ds i j = ds := by
        have := hw
        rw [q.len] at this
        rw [← cut_eq, this.1, this.2]
        simp
      rw [e2] at m4
      exact m4 F4 H3 s4 _ ⟨g3.ok, g4.addF (d := .tup ds) ⟨p, vs, rfl, hp, q⟩⟩
    · obtain ⟨F5, s5, g5⟩ := G.mkT (p := p') g4 (q.slice (lo := i) (hi := j)) hp'
      unfold cutV
      rw [cut_eq]
      exact m4 F5 _ (s4.trans s5) _ ⟨g3.ok, g5⟩
  | str s =>
    simp only [sliceD] at e
    split at e
    · rename_i hz
      cases e
      refine .inr (.inr ⟨_, r0, by rw [Str'_len, ← line_eq]; exact hz, m4 F4 H3 s4 _ ⟨g3.ok, g4.addF (d := .str _) ?_⟩⟩)
      show V.str (cutS (Str' s) i j) = V.str (Str' (sliceL s i j))
      unfold cutS
      rw [Str'_len]
      exact congrArg (fun l : List Nat => V.str ⟨l.toArray⟩) (cut_eq s i j)
    · cases e
  | _ => simp [sliceD] at e
end
end FA
/-! FAru4: chains, what is walked, targets, comprehensions. -/
namespace FA
open PySem L2
section
variable {X : Cx} {Γ : Wd} {W : WX} {e a b c : Expr} {pos p : Pos} {x : Str} {ca cb cc : Ex} {pa pb : Px} {ta tb tc : Tx} {F F' Fr H H' : Hp} {σ : St} {ρ ρ' : Env} {ts : Bag} {v : V} {o : O}

theorem chain_ok {f g : Op2} {r r' : R2} (hf : ∀ {H : Hp} {v1 v2 : V} {a b : D} {o : O} {Q : VK}, RepF Γ H a v1 → RepF Γ H b v2 → f a b = some o → (∀ x, o = boolO x → Q (.bl x) H) → r v1 v2 H Q)
    (hg : ∀ {H : Hp} {v1 v2 : V} {a b : D} {o : O} {Q : VK}, RepF Γ H a v1 → RepF Γ H b v2 → g a b = some o → (∀ x, o = boolO x → Q (.bl x) H) → r' v1 v2 H Q) (bf : OpB f) (bg : OpB g) :
    ∀ σ H Q, tD Γ W (eChain f g ca cb cc) σ H Q → tChain r r' (tD Γ W ca) (tD Γ W cb) (tD Γ W cc) σ H Q := by
  rintro σ H Q ⟨ρ, F, Fr, ts, gs, m⟩
  refine ⟨ρ, F, Fr, ts, gs, (Post.bind0 m).mono fun o1 ρ1 F1 H1 s1 m1 v1 g1 => ?_⟩
  refine ⟨ρ1, F1, Fr, _, g1, (Post.bind [(v1, o1)] m1).mono fun o2 ρ2 F2 H2 s2 m2 v2 g2 => ?_⟩
  cases e : f o1.fr o2.fr with
  | none => rw [e] at m2; exact False.elim m2
  | some o =>
    rw [e] at m2
    obtain ⟨bb, rfl⟩ := bf _ _ _ e
    refine hf g2.tail.view g2.view e fun y hy => ?_
    cases hy
    refine ⟨bb, rfl, ?_⟩
    cases bb with
    | false => exact iteF (m2 F2 H2 (Sub.refl _) (.bl false) (g2.tail.tail.addF (d := .bl false) rfl))
    | true =>
      refine iteT ⟨ρ2, F2, Fr, _, g2, ?_⟩
      refine (Post.bind [(v2, o2), (v1, o1)] (show Post Γ W σ F2 Fr ts _ ((cc ρ2).bind fun w ρ => ofOpt (g o2.fr w.fr) ρ) from m2)).mono fun o3 ρ3 F3 H3 s3 m3 v3 g3 => ?_
      obtain ⟨o, e3, m4⟩ := m3.opt
      obtain ⟨b3, rfl⟩ := bg _ _ _ e3
      refine hg g3.tail.view g3.view e3 fun y hy => ?_
      cases hy
      exact m4 F3 H3 (Sub.refl _) (.bl b3) (g3.tail.tail.tail.addF (d := .bl b3) rfl)
theorem de_chain {op op' : CmpOp} {f g : Op2} (ho : Op2B X Γ (compareOp op) f) (ho' : Op2B X Γ (compareOp op') g) (bf : OpB f) (bg : OpB g) (ha : DenE X Γ W a ca) (hb : DenE X Γ W b cb) (hc : DenE X Γ W c cc)
    (hm : lastMarks [op, op'] [b, c] = false := by with_unfolding_all rfl) : DenE X Γ W (.Compare a [op, op'] [b, c] pos) (eChain f g ca cb cc) := by
  obtain ⟨r, hr, k⟩ := ho
  obtain ⟨r', hr', k'⟩ := ho'
  exact pe_imp (pe_chain hr hr' ha hb hc hm) (chain_ok k k' bf bg)
theorem eChain_bool {f g : Op2} (bf : OpB f) (bg : OpB g) : ∀ ρ o ρ', eChain f g ca cb cc ρ = .ok o ρ' → ∃ b, o = boolO b := by
  intro ρ o ρ' h
  unfold eChain at h
  cases h1 : ca ρ with
  | ok x ρ1 =>
    rw [h1] at h
    have h : (cb ρ1).bind _ = .ok o ρ' := h
    cases h2 : cb ρ1 with
    | ok y ρ2 =>
      rw [h2] at h
      have h : (ofOpt (f x.fr y.fr) ρ2).bind _ = .ok o ρ' := h
      cases h3 : f x.fr y.fr with
      | none => rw [h3] at h; cases h
      | some z =>
        rw [h3] at h
        obtain ⟨bb, rfl⟩ := bf _ _ _ h3
        cases bb with
        | false => cases h; exact ⟨false, rfl⟩
        | true =>
          have h : (cc ρ2).bind (fun w ρ => ofOpt (g y.fr w.fr) ρ) = .ok o ρ' := h
          cases h4 : cc ρ2 with
          | ok w ρ3 =>
            rw [h4] at h
            have h : ofOpt (g y.fr w.fr) ρ3 = .ok o ρ' := h
            cases h5 : g y.fr w.fr with
            | none => rw [h5] at h; cases h
            | some z => rw [h5] at h; cases h; exact bg _ _ _ h5
          | exc _ _ _ => rw [h4] at h; cases h
          | st => rw [h4] at h; cases h
    | exc _ _ _ => rw [h2] at h; cases h
    | st => rw [h2] at h; cases h
  | exc _ _ _ => rw [h1] at h; cases h
  | st => rw [h1] at h; cases h
theorem dt_chain {op op' : CmpOp} {f g : Op2} (ho : Op2B X Γ (compareOp op) f) (ho' : Op2B X Γ (compareOp op') g) (bf : OpB f) (bg : OpB g) (ha : DenE X Γ W a ca) (hb : DenE X Γ W b cb) (hc : DenE X Γ W c cc)
    (hm : lastMarks [op, op'] [b, c] = false := by with_unfolding_all rfl) : DenT X Γ W (.Compare a [op, op'] [b, c] pos) (tE (eChain f g ca cb cc)) := by
  obtain ⟨r, hr, k⟩ := ho
  obtain ⟨r', hr', k'⟩ := ho'
  exact dt_b (pt_chain hr hr' ha hb hc hm) (chain_ok k k' bf bg) (eChain_bool bf bg)

/-! ### what is walked -/
theorem wk_list {K : PySem.W.Frag} {q : Addr} {vs : List V} {ds : List D} (h : F q = some (.lst vs)) (r : RepFs Γ F ds vs) : Wk Γ (Itl K q) F ds where
  go := fun i H s hi => by
    have hv : i < vs.length := by rw [r.len]; exact hi
    exact ⟨vs, vs[i], .inl (.inl (s _ _ h)), by simp [hv]⟩
  stop := fun i H s hi => ⟨vs, .inl (.inl (s _ _ h)), by rw [r.len]; exact hi⟩
  yld := fun i H x H' F1 Fr L its d s g hd y => by
    obtain ⟨rfl, y⟩ := y
    obtain ⟨u, hu, ru⟩ := r.get hd
    have := y vs (.inl (.inl (g.sub _ _ (s _ _ h))))
    rw [hu] at this
    cases this
    exact ⟨F1, Sub.refl _, g.addF (RepF.mono s ru)⟩
theorem wk_tup {K : PySem.W.Frag} {q : Addr} {vs : List V} {ds : List D} (h : F q = some (.tup vs)) (r : RepFs Γ F ds vs) : Wk Γ (Itt K q) F ds where
  go := fun i H s hi => by
    have hv : i < vs.length := by rw [r.len]; exact hi
    exact ⟨vs, vs[i], .inl (.inl (s _ _ h)), by simp [hv]⟩
  stop := fun i H s hi => ⟨vs, .inl (.inl (s _ _ h)), by rw [r.len]; exact hi⟩
  yld := fun i H x H' F1 Fr L its d s g hd y => by
    obtain ⟨rfl, y⟩ := y
    obtain ⟨u, hu, ru⟩ := r.get hd
    have := y vs (.inl (.inl (g.sub _ _ (s _ _ h))))
    rw [hu] at this
    cases this
    exact ⟨F1, Sub.refl _, g.addF (RepF.mono s ru)⟩
theorem wk_str {s : List Nat} : Wk Γ (Its (Str' s)) F (s.map fun c => .str [c]) where
  go := fun i H _ hi => by show i < (Str' s).cps.size; simpa [Str'] using hi
  stop := fun i H _ hi => by show (Str' s).cps.size ≤ i; simpa [Str'] using hi
  yld := fun i H x H' F1 Fr L its d _ g hd y => by
    obtain ⟨rfl, c, hc, rfl⟩ := y
    refine ⟨F1, Sub.refl _, g.addF ?_⟩
    rw [List.getElem?_map] at hd
    obtain ⟨c', hc', rfl⟩ := Option.map_eq_some_iff.mp hd
    have : c = c' := by
      have : s[i]? = some c := by simpa [Str'] using hc
      rw [this] at hc'; cases hc'; rfl
    subst this
    rfl
theorem di_e (hK : X.K = Γ.K) {tg : Expr} (h : DenE X Γ W a ca) : DenI X Γ W tg a (iE ca) := by
  refine pi_imp (pi_alt (pi_alt (pi_list h) (pi_tup h)) (pi_str h)) fun σ H R' ⟨ρ, F, Fr, ts, g, m⟩ => ?_
  -- which of the three: by what came
  cases e : ca ρ with
  | ok o1 ρ1 =>
    cases hd : o1.fr with
    | lst ds =>
      refine .inl (.inl ⟨ρ, F, Fr, ts, g, (Post.bind0 m).monoE fun o2 ρ2 F1 H1 e1 s1 m1 v1 g1 => ?_⟩)
      rw [e] at e1; cases e1
      obtain ⟨o, e2, m2⟩ := m1.opt
      rw [hd] at e2; cases e2
      obtain ⟨F2, s2, g2⟩ := g1.freeze
      have r := g2.fzF
      rw [hd] at r
      obtain ⟨q, vs, rfl, hq, rq⟩ := r
      exact ⟨q, rfl, ⟨vs, .inl (.inl (g2.sub _ _ hq))⟩, m2 F2 H1 s2 _ g2.tail (wk_list hq rq)⟩
    | tup ds =>
      refine .inl (.inr ⟨ρ, F, Fr, ts, g, (Post.bind0 m).monoE fun o2 ρ2 F1 H1 e1 s1 m1 v1 g1 => ?_⟩)
      rw [e] at e1; cases e1
      obtain ⟨o, e2, m2⟩ := m1.opt
      rw [hd] at e2; cases e2
      obtain ⟨F2, s2, g2⟩ := g1.freeze
      have r := g2.fzF
      rw [hd] at r
      obtain ⟨q, vs, rfl, hq, rq⟩ := r
      exact ⟨q, rfl, ⟨vs, .inl (.inl (g2.sub _ _ hq))⟩, m2 F2 H1 s2 _ g2.tail (wk_tup hq rq)⟩
    | str s =>
      refine .inr ⟨ρ, F, Fr, ts, g, (Post.bind0 m).monoE fun o2 ρ2 F1 H1 e1 s1 m1 v1 g1 => ?_⟩
      rw [e] at e1; cases e1
      obtain ⟨o, e2, m2⟩ := m1.opt
      rw [hd] at e2; cases e2
      have r := g1.view
      rw [hd] at r
      exact ⟨_, r, m2 F1 H1 (Sub.refl _) _ g1.tail wk_str⟩
    | _ =>
      have m' : Post Γ W σ F Fr ts (QI Γ σ Fr ts R') (ofOpt (itemsD o1.fr) ρ1) := by
        have := m
        unfold iE at this
        rw [e] at this
        exact this
      rw [hd] at m'
      exact False.elim m'
  | exc y ds ρ1 =>
    refine .inl (.inl ⟨ρ, F, Fr, ts, g, ?_⟩)
    have : Post Γ W σ F Fr ts (QI Γ σ Fr ts R') (iE ca ρ) := m
    unfold iE at this
    rw [e] at this ⊢
    exact this
  | st =>
    unfold iE at m
    rw [e] at m
    exact False.elim m
theorem range_get (lo st : Int) : ∀ (n i : Nat), (rangeL lo st n)[i]? = if i < n then some (.int (lo + st * i)) else none
  | 0, i => by simp [rangeL]
  | n + 1, 0 => by simp [rangeL]
  | n + 1, i + 1 => by
    simp only [rangeL, List.getElem?_cons_succ, Nat.add_lt_add_iff_right]
    rw [range_get (lo + st) st n i]
    split
    · congr 2
      push_cast
      rw [Int.mul_add]
      omega
    · rfl
theorem range_len (lo st : Int) : ∀ n : Nat, (rangeL lo st n).length = n
  | 0 => rfl
  | n + 1 => by simp [rangeL, range_len (lo + st) st n]
theorem wk_range {lo : Int} {n : Nat} : Wk Γ (Itr lo n) F (rangeL lo 1 n) where
  go := fun i H _ hi => by rw [range_len] at hi; exact hi
  stop := fun i H _ hi => by rw [range_len] at hi; exact hi
  yld := fun i H x H' F1 Fr L its d _ g hd y => by
    obtain ⟨rfl, rfl⟩ := y
    rw [range_get] at hd
    split at hd
    · cases hd
      exact ⟨F1, Sub.refl _, g.addF (by rw [Int.one_mul]; rfl)⟩
    · cases hd
theorem small62_iff {i : Int} (h : small62 i = true) : -(2 ^ 62) ≤ i ∧ i < 2 ^ 62 := by
  simp [small62] at h
  omega
theorem di_range1 {tg : Expr} (hg : Gl X "range") (hm : X.mg "range" = none) (ha : DenE X Γ W a ca) (hs : starEach [a] X.env = [(false, eval a X.env)] := by rfl) (hs2 : starEach [a] X.env = (false, eval a X.env) :: starEach [] X.env := by rfl) :
    DenI X Γ W tg (.Call (.Name "range" p) [a] [] pos) (iRange1 ca) := by
  refine pi_imp (pi_range1 hg hm (pa_cons ha pa_nil hs2) hs) fun σ H R' ⟨ρ, F, Fr, ts, g, m⟩ => ⟨ρ, F, Fr, ts, g, (Post.bind0 m).mono fun o1 ρ1 F1 H1 s1 m1 v1 g1 => ?_⟩
  split at m1
  · split at m1
    · rename_i j hj
      obtain ⟨a1, a2⟩ := small62_iff hj
      exact ⟨j, by rw [show v1 = _ from g1.fzF], a1, a2, m1 F1 H1 (Sub.refl _) _ g1.tail wk_range⟩
    · exact False.elim m1
  · exact False.elim m1
theorem di_range2 {tg : Expr} (hg : Gl X "range") (hm : X.mg "range" = none) (ha : DenE X Γ W a ca) (hb : DenE X Γ W b cb) (hs : starEach [a, b] X.env = [(false, eval a X.env), (false, eval b X.env)] := by rfl) (hs2 : starEach [b] X.env = [(false, eval b X.env)] := by rfl)
    (hs3 : starEach [a, b] X.env = (false, eval a X.env) :: starEach [b] X.env := by rfl) (hs4 : starEach [b] X.env = (false, eval b X.env) :: starEach [] X.env := by rfl) :
    DenI X Γ W tg (.Call (.Name "range" p) [a, b] [] pos) (iRange ca cb) := by
  refine pi_imp (pi_range2 hg hm (pa_cons ha (pa_cons hb pa_nil hs4) hs3) hs hs2) fun σ H R' ⟨ρ, F, Fr, ts, g, m⟩ => ⟨ρ, F, Fr, ts, g, (Post.bind0 m).mono fun o1 ρ1 F1 H1 s1 m1 v1 g1 => ?_⟩
  refine ⟨ρ1, F1, Fr, _, g1, (Post.bind [(v1, o1)] m1).mono fun o2 ρ2 F2 H2 s2 m2 v2 g2 => ?_⟩
  split at m2
  · split at m2
    · rename_i i j hij
      obtain ⟨h1, h2⟩ := Bool.and_eq_true_iff.mp hij
      obtain ⟨a1, a2⟩ := small62_iff h1
      obtain ⟨a3, a4⟩ := small62_iff h2
      exact ⟨i, j, by rw [show v2 = _ from g2.fzF, show v1 = _ from GS.fzF g2.tail], ⟨a1, a2, a3, a4⟩, m2 F2 H2 (Sub.refl _) _ g2.tail.tail wk_range⟩
    · exact False.elim m2
  · exact False.elim m2

/-! ### targets -/
mutual
def Tgt.names : Tgt → List Nat
  | .nm i => [i]
  | .tp ts => tnames ts
def tnames : List Tgt → List Nat
  | [] => []
  | t :: r => t.names ++ tnames r
end
def OnlyAt (ns : List Nat) (σ σ' : St) : Prop := σ'.length = σ.length ∧ ∀ i, i ∉ ns → σ'[i]? = σ[i]?
theorem OnlyAt.kept {ns kp : List Nat} {σ σ' : St} (h : OnlyAt ns σ σ') (d : ∀ i ∈ kp, i ∉ ns) : Kept kp σ σ' := fun i hi => h.2 i (d i hi)
theorem OnlyAt.trans {ns ms : List Nat} {σ σ' σ'' : St} (h : OnlyAt ns σ σ') (h' : OnlyAt ms σ' σ'') : OnlyAt (ns ++ ms) σ σ'' :=
  ⟨h'.1.trans h.1, fun i hi => (h'.2 i fun z => hi (List.mem_append_right _ z)).trans (h.2 i fun z => hi (List.mem_append_left _ z))⟩
def tDG (Γ : Wd) (t : Tgt) : TG := fun v σ H Q => ∃ ρ F Fr ts o ρ', GS Γ F Fr H σ ρ ((v, o) :: ts) ∧ asgn t o ρ = some ρ' ∧ ∀ σ', OnlyAt t.names σ σ' → GS Γ F Fr H σ' ρ' ts → Q σ' H
def tDGs (Γ : Wd) (tg : List Tgt) : TGs := fun vs σ H Q => ∃ ρ F Fr ts os ρ', vs.length = os.length ∧ tg.length = os.length ∧ GS Γ F Fr H σ ρ (vs.zip os ++ ts) ∧ asgns tg os ρ = some ρ' ∧ ∀ σ', OnlyAt (tnames tg) σ σ' → GS Γ F Fr H σ' ρ' ts → Q σ' H
abbrev DenG (X : Cx) (Γ : Wd) (e : Expr) (t : Tgt) : Prop := PG X e (tDG Γ t)
abbrev DenGs (X : Cx) (Γ : Wd) (es : List Expr) (t : List Tgt) : Prop := PGs X es (tDGs Γ t)
theorem pg_imp {t t' : TG} (h : PG X e t) (i : ∀ v σ H Q, t' v σ H Q → t v σ H Q) : PG X e t' := ⟨fun pins s σ H v u Q I r q => h.run pins s σ H v u Q I r (i v σ H Q q)⟩
theorem pgs_imp {es : List Expr} {t t' : TGs} (h : PGs X es t) (i : ∀ v σ H Q, t' v σ H Q → t v σ H Q) : PGs X es t' := ⟨fun pins s σ H v u Q I r q => h.run pins s σ H v u Q I r (i v σ H Q q)⟩

theorem asgn_len : ∀ {t : Tgt} {o : O} {ρ ρ' : Env}, asgn t o ρ = some ρ' → ρ'.length = ρ.length
  | .nm i, o, ρ, ρ', h => by
    unfold asgn at h
    split at h
    · cases h; simp
    · cases h
  | .tp ts, .fz (.tup ds), ρ, ρ', h => by
    unfold asgn at h
    split at h
    · exact asgns_len h
    · cases h
  | .tp ts, .tup os, ρ, ρ', h => by
    unfold asgn at h
    split at h
    · exact asgns_len h
    · cases h
  | .tp _, .fz .non, _, _, h => by simp [asgn] at h
  | .tp _, .fz (.bl _), _, _, h => by simp [asgn] at h
  | .tp _, .fz (.int _), _, _, h => by simp [asgn] at h
  | .tp _, .fz (.str _), _, _, h => by simp [asgn] at h
  | .tp _, .fz (.lst _), _, _, h => by simp [asgn] at h
  | .tp _, .fz (.dic _), _, _, h => by simp [asgn] at h
  | .tp _, .fz (.ins _ _), _, _, h => by simp [asgn] at h
  | .tp _, .fz (.scr _), _, _, h => by simp [asgn] at h
  | .tp _, .lst _, _, _, h => by simp [asgn] at h
  | .tp _, .dic _, _, _, h => by simp [asgn] at h
  | .tp _, .ins _ _, _, _, h => by simp [asgn] at h
where asgns_len : ∀ {ts : List Tgt} {os : List O} {ρ ρ' : Env}, asgns ts os ρ = some ρ' → ρ'.length = ρ.length
  | [], _, _, _, h => by cases h; rfl
  | t :: r, o :: os, ρ, ρ', h => by
    obtain ⟨ρ1, h1, h2⟩ := Option.bind_eq_some_iff.mp (show (asgn t o ρ).bind (asgns r os) = some ρ' from h)
    rw [asgns_len h2, asgn_len h1]
  | _ :: _, [], _, _, h => by simp [asgns] at h
theorem dg_nm (i : Nat) (hN : X.N.Nodup) {x : Str} (hi : X.N[i]? = some x := by rfl) (hx : Loc X.env.scope x := by first | exact Or.inl rfl | exact Or.inr rfl) (hf : X.fn x = true ∨ X.env.scope.names.lookup x = some .local := by first | exact .inl rfl | exact .inr rfl | assumption) : DenG X Γ (.Name x pos) (.nm i) := by
  refine pg_imp (pg_name hN hi hx hf) fun v σ H Q ⟨ρ, F, Fr, ts, o, ρ', g, e, k⟩ => ?_
  unfold asgn at e
  split at e
  · rename_i hl
    cases e
    refine k _ ⟨by simp, fun j hj => ?_⟩ (g.store hl)
    have : j ≠ i := fun z => hj (by rw [z]; simp [Tgt.names])
    rw [List.getElem?_set_ne (Ne.symm this)]
  · cases e
theorem dgs_nil : DenGs X Γ [] [] := by
  refine pgs_imp pgs_nil fun vs σ H Q ⟨ρ, F, Fr, ts, os, ρ', l, l2, g, e, k⟩ => ?_
  have : os = [] := List.length_eq_zero_iff.mp l2.symm
  subst this
  have : vs = [] := List.length_eq_zero_iff.mp l
  subst this
  cases e
  exact ⟨rfl, k σ ⟨rfl, fun _ _ => rfl⟩ g⟩
theorem dgs_cons {es : List Expr} {t : Tgt} {tg : List Tgt} (h1 : DenG X Γ e t) (h2 : DenGs X Γ es tg) (hs : (assignEach (e :: es) X.env).map (·.2) = assign e X.env :: (assignEach es X.env).map (·.2) := by rfl) : DenGs X Γ (e :: es) (t :: tg) := by
  refine pgs_imp (pgs_cons h1 h2 hs) fun vs σ H Q ⟨ρ, F, Fr, ts, os, ρ', l, l2, g, e, k⟩ => ?_
  cases os with
  | nil => simp at l2
  | cons o os =>
    cases vs with
    | nil => simp at l
    | cons v vs =>
      obtain ⟨ρ1, e1, e2⟩ := Option.bind_eq_some_iff.mp (show (asgn t o ρ).bind (asgns tg os) = some ρ' from e)
      refine ⟨v, vs, rfl, ρ, F, Fr, _, o, ρ1, g, e1, fun σ1 h1 g1 => ?_⟩
      exact ⟨ρ1, F, Fr, ts, os, ρ', by simpa using l, by simpa using l2, g1, e2, fun σ2 h2 g2 => k σ2 (h1.trans h2) g2⟩
theorem dg_tp (hK : X.K = Γ.K) (hc : X.calm = true) {es : List Expr} {kk : Nat} {tg : List Tgt} (h : DenGs X Γ es tg) (hn : (assignEach es X.env).length = tg.length := by rfl) (hst : (assignEach es X.env).findIdx? (·.1) = none := by rfl) : DenG X Γ (.Tuple es kk pos) (.tp tg) := by
  refine pg_imp (pg_tup hc h hn hst) fun v σ H Q ⟨ρ, F, Fr, ts, o, ρ', g, e, k⟩ => ?_
  have gg := g.g
  cases o with
  | fz d =>
    cases d with
    | tup ds =>
      unfold asgn at e
      split at e
      · rename_i hl
        obtain ⟨q, vs, rfl, hq, rq⟩ := g.fzF
        refine ⟨q, vs, rfl, .inl (.inl (g.sub _ _ hq)), by rw [rq.len, hl], ρ, F, Fr, ts, ds.map .fz, ρ', by simp [rq.len], by simp [hl], ⟨g.ok, ?_⟩, e, k⟩
        rw [List.append_assoc]
        exact zipFz rq g.tail.g
      · cases e
    | _ => simp [asgn] at e
  | tup os =>
    unfold asgn at e
    split at e
    · rename_i hl
      obtain ⟨sb, fr, off, fp, nd, al, f1, f2, rfl, ⟨q, vs, rfl, hq, rq⟩, s⟩ := gg
      obtain ⟨l, r'⟩ := rq.toL
      refine ⟨q, vs, rfl, .inl (.inl (sb _ _ hq)), by rw [l, hl], ρ, F, Fr, ts, os, ρ', l, hl, ⟨g.ok, ?_⟩, e, k⟩
      rw [List.append_assoc]
      exact ⟨sb, fr, off, f1 ++ f2, nd, al, r'.append s⟩
    · cases e
  | _ => simp [asgn] at e
end
end FA
/-! FAru5: comprehensions. -/
namespace FA
open PySem L2
section
variable {X : Cx} {Γ : Wd} {W : WX} {e a b c : Expr} {pos p : Pos} {x : Str} {ca cb cc : Ex} {pa pb : Px} {ta tb tc : Tx} {F F' Fr H H' : Hp} {σ σ' : St} {ρ ρ' ρ₀ : Env} {ts : Bag} {v : V} {o : O}

theorem live_any : ∀ {σ σ' : St} {ρ : Env}, SlotsOk σ ρ → σ'.length = σ.length → (∀ (i : Nat) (o : O), ρ[i]? = some (some o) → σ'[i]? = σ[i]?) → SlotsOk σ' ρ ∧ live σ' ρ = live σ ρ
  | [], [], [], _, _, _ => ⟨trivial, rfl⟩
  | [], _ :: _, _, _, l, _ => by simp at l
  | _ :: _, [], _, _, l, _ => by simp at l
  | [], [], _ :: _, h, _, _ => h.elim
  | _ :: _, _ :: _, [], h, _, _ => h.elim
  | a :: σ, b :: σ', o :: ρ, h, l, k => by
    obtain ⟨i1, i2⟩ := live_any (σ := σ) (σ' := σ') (ρ := ρ) h.2 (by simpa using l) fun i o' e => by simpa using k (i + 1) o' (by simpa using e)
    cases o with
    | none =>
      refine ⟨⟨fun x z => (nomatch z), i1⟩, ?_⟩
      have e1 : live (b :: σ') (none :: ρ) = live σ' ρ := by cases b <;> rfl
      have e2 : live (a :: σ) (none :: ρ) = live σ ρ := by cases a <;> rfl
      rw [e1, e2, i2]
    | some o' =>
      have e : b = a := by simpa using k 0 o' rfl
      subst e
      refine ⟨⟨h.1, i1⟩, ?_⟩
      cases b with
      | none => exact i2
      | some v => exact congrArg ((v, o') :: ·) i2
theorem GS.any (g : GS Γ F Fr H σ ρ ts) (l : σ'.length = σ.length) (k : ∀ (i : Nat) (o : O), ρ[i]? = some (some o) → σ'[i]? = σ[i]?) : GS Γ F Fr H σ' ρ ts := by
  obtain ⟨a, b⟩ := live_any g.ok l k
  exact ⟨a, by rw [b]; exact g.g⟩
theorem hide_len (vs : List Nat) : ∀ ρ : Env, (hide vs ρ).length = ρ.length := by
  induction vs with
  | nil => intro ρ; rfl
  | cons v r ih => intro ρ; show (hide r (ρ.set v none)).length = _; rw [ih]; simp
theorem hide_get (vs : List Nat) : ∀ (ρ : Env) (i : Nat), (hide vs ρ)[i]? = if i ∈ vs ∧ i < ρ.length then some none else ρ[i]? := by
  induction vs with
  | nil => intro ρ i; simp [hide]
  | cons v r ih =>
    intro ρ i
    show (hide r (ρ.set v none))[i]? = _
    rw [ih]
    by_cases h1 : i ∈ r ∧ i < ρ.length
    · rw [if_pos ⟨h1.1, by simpa using h1.2⟩, if_pos ⟨List.mem_cons_of_mem _ h1.1, h1.2⟩]
    · rw [if_neg (by simpa using h1)]
      by_cases hv : i = v
      · subst hv
        by_cases hl : i < ρ.length
        · rw [if_pos ⟨List.mem_cons_self .., hl⟩]; simp [hl]
        · rw [if_neg (by rintro ⟨_, h⟩; exact hl h)]; simp [hl]
      · rw [List.getElem?_set_ne (Ne.symm hv), if_neg]
        rintro ⟨h, hl⟩
        exact h1 ⟨(List.mem_cons.mp h).resolve_left hv, hl⟩
theorem GS.hid (vs : List Nat) : ∀ {ρ : Env}, GS Γ F Fr H σ ρ ts → GS Γ F Fr H σ (hide vs ρ) ts := by
  induction vs with
  | nil => intro ρ g; exact g
  | cons v r ih => intro ρ g; exact ih g.forget1
theorem wipe_get (vs : List Nat) : ∀ (σ : St) (i : Nat), i ∉ vs → (wipe σ vs)[i]? = σ[i]? := by
  induction vs with
  | nil => intro σ i _; rfl
  | cons v r ih =>
    intro σ i h
    show ((wipe σ r).set v none)[i]? = _
    rw [List.getElem?_set_ne (fun z => h (by rw [z]; exact List.mem_cons_self ..)), ih σ i fun z => h (List.mem_cons_of_mem _ z)]
/-- back to a turn's start: the own names' slots forgotten -/
theorem GS.wipes (vs : List Nat) (g : GS Γ F Fr H σ' ρ ts) (l : σ'.length = σ.length) (k : ∀ i, i ∉ vs → σ'[i]? = σ[i]?) : GS Γ F Fr H (wipe σ vs) (hide vs ρ) ts := by
  refine (g.hid vs).any (by rw [wipe_length, l]) fun i o h => ?_
  have hi : i ∉ vs := fun z => by
    rw [hide_get] at h
    by_cases hl : i < ρ.length
    · rw [if_pos ⟨z, hl⟩] at h; cases h
    · rw [if_neg (fun q => hl q.2), List.getElem?_eq_none_iff.mpr (by omega)] at h; cases h
  rw [wipe_get vs σ i hi, k i hi]
theorem live_fill : ∀ {σ : St} {ρ ρ' : Env} {fp : List Addr}, SlotsOk σ ρ → ρ'.length = ρ.length →
    (∀ i : Nat, ρ'[i]? = ρ[i]? ∨ (ρ[i]? = some none ∧ (ρ'[i]? = some none ∨ ∃ d v, ρ'[i]? = some (some (.fz d)) ∧ σ[i]? = some (some v) ∧ RepF Γ F d v))) → RepL Γ F H (live σ ρ) fp → SlotsOk σ ρ' ∧ RepL Γ F H (live σ ρ') fp
  | [], [], [], _, _, _, _, r => ⟨trivial, r⟩
  | _, [], _ :: _, _, _, l, _, _ => by simp at l
  | _, _ :: _, [], _, _, l, _, _ => by simp at l
  | [], _ :: _, _, _, h, _, _, _ => h.elim
  | _ :: _, [], _, _, h, _, _, _ => h.elim
  | a :: σ, o :: ρ, o' :: ρ', fp, h, l, k, r => by
    have k0 := k 0
    have kr : ∀ i : Nat, ρ'[i]? = ρ[i]? ∨ (ρ[i]? = some none ∧ (ρ'[i]? = some none ∨ ∃ d v, ρ'[i]? = some (some (.fz d)) ∧ σ[i]? = some (some v) ∧ RepF Γ F d v)) := fun i => by simpa using k (i + 1)
    simp only [List.getElem?_cons_zero, Option.some.injEq] at k0
    have same : ∀ {fp}, o' = o → RepL Γ F H (live (a :: σ) (o :: ρ)) fp → SlotsOk (a :: σ) (o' :: ρ') ∧ RepL Γ F H (live (a :: σ) (o' :: ρ')) fp := by
      intro fp e r
      subst e
      cases a with
      | none =>
        obtain ⟨i1, i2⟩ := live_fill h.2 (by simpa using l) kr (show RepL Γ F H (live σ ρ) fp by cases o' <;> exact r)
        exact ⟨⟨h.1, i1⟩, by cases o' <;> exact i2⟩
      | some v =>
        cases o' with
        | none =>
          obtain ⟨i1, i2⟩ := live_fill h.2 (by simpa using l) kr (show RepL Γ F H (live σ ρ) fp from r)
          exact ⟨⟨h.1, i1⟩, i2⟩
        | some o2 =>
          obtain ⟨f1, f2, ef, r1, r2⟩ := r
          obtain ⟨i1, i2⟩ := live_fill h.2 (by simpa using l) kr r2
          exact ⟨⟨h.1, i1⟩, f1, f2, ef, r1, i2⟩
    rcases k0 with e | ⟨e, e' | ⟨d, v, e', ev, rr⟩⟩
    · exact same e r
    · exact same (e'.trans e.symm) r
    · subst e e' ev
      obtain ⟨i1, i2⟩ := live_fill h.2 (by simpa using l) kr (show RepL Γ F H (live σ ρ) fp from r)
      exact ⟨⟨fun _ _ => ⟨v, rfl⟩, i1⟩, [], fp, rfl, ⟨rr, rfl⟩, i2⟩
theorem unhide_len (vs : List Nat) : ∀ ρ : Env, (unhide vs ρ₀ ρ).length = ρ.length := by
  induction vs with
  | nil => intro ρ; rfl
  | cons v r ih => intro ρ; show (unhide r ρ₀ (ρ.set v _)).length = _; rw [ih]; simp
theorem unhide_get (vs : List Nat) : ∀ (ρ : Env) (i : Nat), (unhide vs ρ₀ ρ)[i]? = if i ∈ vs ∧ i < ρ.length then some ((ρ₀[i]?).getD none) else ρ[i]? := by
  induction vs with
  | nil => intro ρ i; simp [unhide]
  | cons v r ih =>
    intro ρ i
    show (unhide r ρ₀ (ρ.set v (match ρ₀[v]? with | some o => o | none => none)))[i]? = _
    rw [ih]
    by_cases h1 : i ∈ r ∧ i < ρ.length
    · rw [if_pos ⟨h1.1, by simpa using h1.2⟩, if_pos ⟨List.mem_cons_of_mem _ h1.1, h1.2⟩]
    · rw [if_neg (by simpa using h1)]
      by_cases hv : i = v
      · subst hv
        by_cases hl : i < ρ.length
        · rw [if_pos ⟨List.mem_cons_self .., hl⟩, List.getElem?_set_self hl]
          cases ρ₀[i]? <;> rfl
        · rw [if_neg (by rintro ⟨_, h⟩; exact hl h)]; simp [hl]
      · rw [List.getElem?_set_ne (Ne.symm hv), if_neg]
        rintro ⟨h, hl⟩
        exact h1 ⟨(List.mem_cons.mp h).resolve_left hv, hl⟩
theorem GS.unhid (vs : List Nat) (g : GS Γ F Fr H (wipe σ vs) (hide vs ρ) ts) (saved : ∀ i ∈ vs, ∀ o, ρ₀[i]? = some (some o) → ∃ d v, o = .fz d ∧ σ[i]? = some (some v) ∧ RepF Γ F d v) : GS Γ F Fr H σ (unhide vs ρ₀ ρ) ts := by
  have g1 : GS Γ F Fr H σ (hide vs ρ) ts := g.any (by rw [wipe_length]) fun i o h => by
    have hi : i ∉ vs := fun z => by
      rw [hide_get] at h
      by_cases hl : i < ρ.length
      · rw [if_pos ⟨z, hl⟩] at h; cases h
      · rw [if_neg (fun q => hl q.2), List.getElem?_eq_none_iff.mpr (by omega)] at h; cases h
    rw [wipe_get vs σ i hi]
  obtain ⟨sb, fr, off, fp, nd, al, r⟩ := g1.g
  obtain ⟨f1, f2, rfl, r1, r2⟩ := r.split
  have := live_fill (Γ := Γ) (F := F) (H := H) (ρ' := unhide vs ρ₀ ρ) g1.ok (by rw [unhide_len, hide_len]) (fun i => ?_) r2
  · exact ⟨this.1, sb, fr, off, f1 ++ f2, nd, al, r1.append this.2⟩
  · rw [unhide_get, hide_get]
    by_cases h : i ∈ vs ∧ i < ρ.length
    · rw [if_pos h, if_pos h]
      right
      refine ⟨rfl, ?_⟩
      cases e : ρ₀[i]? with
      | none => left; rfl
      | some x =>
        cases x with
        | none => left; rfl
        | some o =>
          obtain ⟨d, v, rfl, hv, rv⟩ := saved i h.1 o e
          exact .inr ⟨d, v, rfl, hv, rv⟩
    · rw [if_neg h, if_neg h]
      left; rfl
theorem G.frUpd {D : Addr} {u u' : HO} {L : List Addr} {xs : Bag} (g : G Γ F (upd Fr D u) H L xs) : G Γ F (upd Fr D u') (upd H D u') L xs := by
  obtain ⟨sb, fr, off, fp, nd, al, s⟩ := g
  have nF : ∀ a w, F a = some w → a ≠ D := fun a w e z => by
    have := off a w e
    rw [z, upd_same] at this; cases this
  have nf : ∀ a ∈ fp ++ L, a ≠ D := fun a ha z => by
    have := (al a ha).2.1
    rw [z, upd_same] at this; cases this
  refine ⟨fun a w e => by rw [upd_ne (nF a w e)]; exact sb a w e, fun a w e => ?_, fun a w e => by rw [upd_ne (nF a w e)]; have := off a w e; rwa [upd_ne (nF a w e)] at this, fp, nd, fun a ha => ?_, s.frame (Sub.refl _) fun a ha => upd_ne (nf a (List.mem_append_left _ ha))⟩
  · by_cases h : a = D
    · subst h; rw [upd_same] at e ⊢; exact e
    · rw [upd_ne h] at e ⊢; exact fr a w (by rw [upd_ne h]; exact e)
  · obtain ⟨a1, a2, w, hw⟩ := al a ha
    exact ⟨a1, by rw [upd_ne (nf a ha)] at a2 ⊢; exact a2, w, by rw [upd_ne (nf a ha)]; exact hw⟩
theorem G.toFrL {D : Addr} {u : HO} {L : List Addr} {xs : Bag} (g : G Γ F Fr H (D :: L) xs) (h : H D = some u) : G Γ F (upd Fr D u) H L xs := by
  obtain ⟨sb, fr, off, fp, nd, al, s⟩ := g
  have p : (fp ++ D :: L).Perm (D :: (fp ++ L)) := List.perm_middle
  have nd' := List.nodup_cons.mp (p.nodup_iff.mp nd)
  have aD := al D (by simp)
  refine ⟨sb, fun a w e => ?_, fun a w e => ?_, fp, nd'.2, fun a ha => ?_, s⟩
  · by_cases z : a = D
    · subst z; rw [upd_same] at e; cases e; exact h
    · rw [upd_ne z] at e; exact fr a w e
  · have : a ≠ D := fun z => by rw [z, aD.1] at e; cases e
    rw [upd_ne this]; exact off a w e
  · have : a ≠ D := fun z => nd'.1 (z ▸ ha)
    obtain ⟨a1, a2, a3⟩ := al a (p.mem_iff.mpr (.tail _ ha))
    exact ⟨a1, by rw [upd_ne this]; exact a2, a3⟩
theorem G.ofFrL {D : Addr} {u : HO} {L : List Addr} {xs : Bag} (g : G Γ F (upd Fr D u) H L xs) (hD : Fr D = none) : G Γ F Fr H (D :: L) xs ∧ H D = some u := by
  obtain ⟨sb, fr, off, fp, nd, al, s⟩ := g
  have hu := fr D u upd_same
  have nf : D ∉ fp ++ L := fun ha => by
    have := (al D ha).2.1
    rw [upd_same] at this; cases this
  have nF : F D = none := by
    cases e : F D with
    | none => rfl
    | some w => have := off D w e; rw [upd_same] at this; cases this
  refine ⟨⟨sb, fun a w e => fr a w (by rw [upd_ne fun z => by rw [z, hD] at e; cases e]; exact e), fun a w e => ?_, fp, ?_, fun a ha => ?_, s⟩, hu⟩
  · have : a ≠ D := fun z => by rw [z, nF] at e; cases e
    have := off a w e
    rwa [upd_ne ‹a ≠ D›] at this
  · exact List.perm_middle.nodup_iff.mpr (List.nodup_cons.mpr ⟨nf, nd⟩)
  · rcases List.mem_cons.mp (List.perm_middle.mem_iff.mp ha) with rfl | ha
    · exact ⟨nF, hD, u, hu⟩
    · obtain ⟨a1, a2, a3⟩ := al a ha
      have : a ≠ D := fun z => nf (z ▸ ha)
      rw [upd_ne this] at a2
      exact ⟨a1, a2, a3⟩

theorem compG_ok {own : List Nat} {t : Tgt} {conds : Tx} {elt : Env → List O → R (List O)} : ∀ {xs : List D} {ρ : Env} {acc : List O} {y : String} {ds : List D} {ρ' : Env}, compG own t conds elt xs ρ acc ≠ .exc y ds ρ'
  | [], _, _, _, _, _, h => by cases h
  | x :: r, ρ, acc, y, ds, ρ', h => by
    unfold compG at h
    split at h
    · cases h
    · rename_i ρ1 _
      cases e : conds ρ1 with
      | ok b ρ2 =>
        rw [e] at h
        have h : (if b = true then (elt ρ2 acc).ne.bind fun acc ρ => compG own t conds elt r ρ acc else compG own t conds elt r ρ2 acc) = _ := h
        split at h
        · cases e2 : elt ρ2 acc with
          | ok a ρ3 => rw [e2] at h; exact compG_ok (xs := r) h
          | exc _ _ _ => rw [e2] at h; cases h
          | st => rw [e2] at h; cases h
        · exact compG_ok (xs := r) h
      | exc _ _ _ => rw [e] at h; cases h
      | st => rw [e] at h; cases h
abbrev W0 : WX := fun _ _ _ _ => False
abbrev DenTs (X : Cx) (Γ : Wd) (W : WX) (ifs : List Expr) (c : Tx) : Prop := PTs X ifs (tDT Γ W c)
theorem pts_imp {ifs : List Expr} {t t' : TT} (h : PTs X ifs t) (i : ∀ σ H Q, t' σ H Q → t σ H Q) : PTs X ifs t' := ⟨fun pins s σ H Q I q => h.run pins s σ H Q I (i σ H Q q)⟩
theorem dts_nil : DenTs X Γ W [] tT := pts_imp pts_nil fun σ H Q ⟨ρ, F, Fr, ts, g, m⟩ => m F H (Sub.refl _) g
theorem dts_one (h : DenT X Γ W a ta) : DenTs X Γ W [a] ta := pts_one h
theorem comp_imp {vs : List Nat} {it : Itx} {t : Tgt} {conds : Tx} {ce : Ex} (hnm : ∀ i ∈ t.names, i ∈ vs) {Q : VK} : tD Γ W (eComp vs t it conds ce) σ H Q → tLc (tDI Γ W it) (tDG Γ t) (tDT Γ W0 conds) (tD Γ W0 ce) vs σ H Q := by
  refine fun ⟨ρ, F, Fr, ts, g, m⟩ => ⟨ρ, F, Fr, ts, g, (Post.bind0 m).mono fun xs ρ0 F1 H1 s1 m1 J g1 wk D hD => ?_⟩
  split at m1
  · exact False.elim m1
  rename_i hof
  have hof : ownFree vs ρ0 = true := by simpa using hof
  have saved : ∀ i ∈ vs, ∀ o, ρ0[i]? = some (some o) → ∃ d v, o = .fz d ∧ σ[i]? = some (some v) ∧ RepF Γ F1 d v := fun i hi o e => by
    have := List.all_eq_true.mp hof i hi
    rw [e] at this
    cases o with
    | fz d =>
      obtain ⟨v, hv, g'⟩ := g1.take e
      exact ⟨d, v, rfl, hv, g'.fzF⟩
    | _ => simp at this
  cases ec : compG vs t conds (push ce) xs ρ0 [] with
  | st => rw [ec] at m1; exact False.elim m1
  | exc y ds ρ1 => exact absurd ec compG_ok
  | ok accF ρF =>
    rw [ec] at m1
    have hFrD : Fr D = none := by
      cases e : Fr D with
      | none => rfl
      | some w => have := g1.g.fr D w e; rw [hD] at this; cases this
    refine ⟨fun i n H2 => n = xs.length - i ∧ i ≤ xs.length ∧ ∃ ρi acc accV F', Sub F1 F' ∧ accV.length = acc.length ∧ GS Γ F' (upd Fr D (.lst accV)) H2 (wipe σ vs) (hide vs ρi) (accV.zip acc ++ ts) ∧ compG vs t conds (push ce) (xs.drop i) ρi acc = .ok accF ρF,
      ⟨xs.length, rfl, Nat.zero_le _, ρ0, [], [], F1, Sub.refl _, rfl, ?_, ec⟩, ?_⟩
    · have g2 := (g1.wipes (σ := σ) vs rfl fun _ _ => rfl)
      exact ⟨g2.ok, (g2.g.new (u := .lst []) hD).toFrL upd_same⟩
    rintro i n H2 ⟨rfl, hi, ρi, acc, accV, F', sF, hl, g2, ec2⟩
    by_cases hlt : i < xs.length
    · right
      refine ⟨wk.go i H2 (sF.trans g2.sub) hlt, fun H3 => i + 1 ≤ xs.length ∧ ∃ ρi acc accV F', Sub F1 F' ∧ accV.length = acc.length ∧ GS Γ F' (upd Fr D (.lst accV)) H3 (wipe σ vs) (hide vs ρi) (accV.zip acc ++ ts) ∧ compG vs t conds (push ce) (xs.drop (i + 1)) ρi acc = .ok accF ρF,
        fun H3 q => ⟨xs.length - (i + 1), by omega, rfl, q.1, q.2⟩, fun x H3 hy => ?_⟩
      have hx : xs[i]? = some xs[i] := List.getElem?_eq_getElem hlt
      obtain ⟨F2, s2, g3⟩ := wk.yld i H2 x H3 F' _ [] _ xs[i] sF g2.g hx hy
      rw [List.drop_eq_getElem_cons hlt] at ec2
      unfold compG at ec2
      split at ec2
      · cases ec2
      rename_i ρa ha
      refine ⟨hide vs ρi, F2, _, accV.zip acc ++ ts, .fz xs[i], ρa, ⟨g2.ok, g3⟩, ha, fun σ2 hσ g4 => ?_⟩
      have hout : ∀ j, j ∉ vs → σ2[j]? = σ[j]? := fun j hj => (hσ.2 j fun z => hj (hnm j z)).trans (wipe_get vs σ j hj)
      have hσl : σ2.length = σ.length := by rw [hσ.1, wipe_length]
      refine ⟨?_, ρa, F2, _, _, g4, ?_⟩
      · apply List.ext_getElem?
        intro j
        by_cases hj : j ∈ vs
        · have hw : ∀ (τ : St), τ.length = σ.length → (wipe τ vs)[j]? = if j < σ.length then some none else none := by
            intro τ hτ
            have : ∀ (us : List Nat), j ∈ us → (wipe τ us)[j]? = if j < σ.length then some none else none := by
              intro us
              induction us with
              | nil => intro z; cases z
              | cons u r ih =>
                intro z
                show ((wipe τ r).set u none)[j]? = _
                by_cases hu : u = j
                · subst hu
                  by_cases hlj : u < σ.length
                  · rw [if_pos hlj, List.getElem?_set_self (by rw [wipe_length, hτ]; exact hlj)]
                  · rw [if_neg hlj, List.getElem?_eq_none_iff.mpr (by rw [List.length_set, wipe_length, hτ]; omega)]
                · rw [List.getElem?_set_ne hu]
                  exact ih ((List.mem_cons.mp z).resolve_left (Ne.symm hu))
            exact this vs hj
          rw [hw σ2 hσl, hw σ rfl]
        · rw [wipe_get vs σ2 j hj, wipe_get vs σ j hj, hout j hj]
      · cases e1 : conds ρa with
        | st => rw [e1] at ec2; cases ec2
        | exc _ _ _ => rw [e1] at ec2; cases ec2
        | ok b ρb =>
          rw [e1] at ec2
          have ec2 : (if b = true then (push ce ρb acc).ne.bind fun acc ρ => compG vs t conds (push ce) (xs.drop (i + 1)) ρ acc else compG vs t conds (push ce) (xs.drop (i + 1)) ρb acc) = .ok accF ρF := ec2
          intro F3 H4 s3 g5
          cases b with
          | false =>
            rw [if_neg Bool.false_ne_true] at ec2 ⊢
            exact ⟨hlt, ρb, acc, accV, F3, (sF.trans s2).trans s3, hl, g5.wipes vs hσl hout, ec2⟩
          | true =>
            rw [if_pos rfl] at ec2 ⊢
            cases e2 : ce ρb with
            | st => unfold push at ec2; rw [e2] at ec2; cases ec2
            | exc _ _ _ => unfold push at ec2; rw [e2] at ec2; cases ec2
            | ok o ρc =>
              have ec3 : ((if acc.length < line then R.ok (acc ++ [o]) ρc else .st) : R (List O)).ne.bind (fun acc ρ => compG vs t conds (push ce) (xs.drop (i + 1)) ρ acc) = .ok accF ρF := by
                unfold push at ec2; rw [e2] at ec2; exact ec2
              split at ec3
              · rename_i hlen
                refine ⟨ρb, F3, _, _, g5, ?_⟩
                rw [e2]
                intro F4 H5 s4 v g6
                refine ⟨accV, g6.g.fr D _ upd_same, by rw [hl, ← line_eq]; exact hlen, hlt, ρc, acc ++ [o], accV ++ [v], F4, ((sF.trans s2).trans s3).trans s4, by simp [hl], ?_, ec3⟩
                have g7 := g6.wipes (σ := σ) vs hσl hout
                refine ⟨g7.ok, (G.frUpd (u' := .lst (accV ++ [v])) g7.g).perm ?_⟩
                rw [List.zip_append hl]
                have : (((v, o) :: (accV.zip acc ++ ts)) : Bag).Perm (accV.zip acc ++ [(v, o)] ++ ts) := by
                  rw [List.append_assoc]
                  exact List.perm_middle.symm
                exact this.append_right _
              · cases ec3
    · left
      have e : i = xs.length := by omega
      subst e
      rw [List.drop_length] at ec2
      cases ec2
      refine ⟨wk.stop _ H2 (sF.trans g2.sub) (Nat.le_refl _), ?_⟩
      obtain ⟨g3, hDa⟩ := G.ofFrL (by have := g2.g; rw [List.append_assoc] at this; exact this) hFrD
      have g4 : G Γ F' Fr H2 [] ((.ref D, .lst accF) :: (ts ++ live (wipe σ vs) (hide vs ρF))) := G.closeL g3 hDa hl
      have g5 : GS Γ F' Fr H2 (wipe σ vs) (hide vs ρF) ((.ref D, .lst accF) :: ts) := ⟨g2.ok, g4⟩
      exact m1 F' H2 sF (.ref D) (g5.unhid vs fun j hj o e => by
        obtain ⟨d, v, a1, a2, a3⟩ := saved j hj o e
        exact ⟨d, v, a1, a2, RepF.mono sF a3⟩)
theorem de_comp (hc : X.calm = true) (hN : X.N.Nodup) {elt tg iter : Expr} {ifs : List Expr} {scope : Scope} {own : List (Str × Nat)} {it : Itx} {t : Tgt} {conds : Tx} {ce : Ex} (hi : DenI X Γ W tg iter it) (ok : BlkOk X.N X.env.scope scope own)
    (hg : ∀ (s : Shared) (H : Hp) (C : Addr) (cl : List (Str × Addr)) (fp : List Addr), DenG (X.blk s H scope (compEnvC scope cl C X.env) fp) Γ tg t) (ht : ∀ (s : Shared) (H : Hp) (C : Addr) (cl : List (Str × Addr)) (fp : List Addr), DenTs (X.blk s H scope (compEnvC scope cl C X.env) fp) Γ W0 ifs conds)
    (he : ∀ (s : Shared) (H : Hp) (C : Addr) (cl : List (Str × Addr)) (fp : List Addr), DenE (X.blk s H scope (compEnvC scope cl C X.env) fp) Γ W0 elt ce) (hnm : ∀ i ∈ t.names, i ∈ own.map (·.2) := by decide) (hs : ∀ x, foldedSetIterable iter X.env x = pure x := by intro _; rfl) :
    DenE X Γ W (.ListComp elt [⟨tg, iter, ifs, 0⟩] scope pos) (eComp (own.map (·.2)) t it conds ce) :=
  pe_imp (pe_lc hc hN hi ok hg ht he hs) fun _ _ _ => comp_imp hnm

end
end FA
/-! FAru6: calls of own defs. -/
namespace FA
open PySem L2
/-- the borrowed arguments and what became of them -/
def outM : List Bool → List V → Env → Bag
  | true :: m, v :: vs, some o :: outs => (v, o) :: outM m vs outs
  | false :: m, _ :: vs, outs => outM m vs outs
  | _, _, _ => []
/-- a def's promise: it does as f says -/
def spOf (Γ : Wd) (f : FSem) (mask : List Bool) : Sp := fun vs H Q E => ∃ os F Fr ts, vs.length = os.length ∧ mask.length = os.length ∧ G Γ F Fr H [] (vs.zip os ++ ts) ∧ match f os with
  | .ok o outs => ∀ v F' H', Sub F F' → G Γ F' Fr H' [] ((v, o) :: (outM mask vs outs ++ ts)) → Q v H'
  | .exc x ds outs => ∀ cls dx F' H', Sub F F' → G Γ F' Fr H' [] (outM mask vs outs ++ ts) → ExcAt Γ F' x ds cls dx → E cls dx H'
  | .st => False
section
variable {X : Cx} {Γ : Wd} {W : WX} {e a b c : Expr} {pos p : Pos} {x : Str} {ca cb cc : Ex} {pa pb : Px} {F F' Fr H H' : Hp} {σ σ' : St} {ρ ρ' : Env} {ts : Bag} {v : V} {o : O}
def ArOk (σ : St) : List Ar → List (Option O) → List V → Prop
  | [], [], [] => True
  | .io i :: r, none :: xs, v :: vs => σ[i]? = some (some v) ∧ ArOk σ r xs vs
  | .v _ :: r, some _ :: xs, _ :: vs => ArOk σ r xs vs
  | .mv _ :: r, some _ :: xs, _ :: vs => ArOk σ r xs vs
  | _, _, _ => False
def avals : List (Option O) → List V → Bag
  | none :: xs, _ :: vs => avals xs vs
  | some o :: xs, v :: vs => (v, o) :: avals xs vs
  | _, _ => []
def tDAr (Γ : Wd) (W : WX) (as : List Ar) : TA := fun σ H Q => ∃ ρ F Fr ts, GS Γ F Fr H σ ρ ts ∧ Post Γ W σ F Fr ts (fun xs ρ' F' H' => ∀ vs, ArOk σ as xs vs → GS Γ F' Fr H' σ ρ' (avals xs vs ++ ts) → Q vs H') (args as ρ)
abbrev DenAr (X : Cx) (Γ : Wd) (W : WX) (es : List Expr) (as : List Ar) : Prop := PA X es (tDAr Γ W as)
theorem dr_nil : DenAr X Γ W [] [] := pa_imp pa_nil fun σ H Q ⟨ρ, F, Fr, ts, g, m⟩ => m F H (Sub.refl _) [] trivial g
theorem dr_v {es : List Expr} {as : List Ar} (ha : DenE X Γ W e ca) (hr : DenAr X Γ W es as) (hs : starEach (e :: es) X.env = (false, eval e X.env) :: starEach es X.env := by rfl) : DenAr X Γ W (e :: es) (.v ca :: as) := by
  refine pa_imp (pa_cons ha hr hs) fun σ H Q ⟨ρ, F, Fr, ts, g, m⟩ => ⟨ρ, F, Fr, ts, g, (Post.bind0 m).mono fun o1 ρ1 F1 H1 s1 m1 v1 g1 => ?_⟩
  obtain ⟨F2, s2, g2⟩ := g1.freeze
  refine ⟨ρ1, F2, Fr, _, g2, ((Post.bind [(v1, .fz o1.fr)] m1).up s2).mono fun xs ρ2 F3 H3 s3 m2 vs hv g3 => ?_⟩
  exact m2 F3 H3 (Sub.refl _) (v1 :: vs) hv (g3.perm List.perm_middle)
theorem dr_mv {es : List Expr} {as : List Ar} (ha : DenE X Γ W e ca) (hr : DenAr X Γ W es as) (hs : starEach (e :: es) X.env = (false, eval e X.env) :: starEach es X.env := by rfl) : DenAr X Γ W (e :: es) (.mv ca :: as) := by
  refine pa_imp (pa_cons ha hr hs) fun σ H Q ⟨ρ, F, Fr, ts, g, m⟩ => ⟨ρ, F, Fr, ts, g, (Post.bind0 m).mono fun o1 ρ1 F1 H1 s1 m1 v1 g1 => ?_⟩
  refine ⟨ρ1, F1, Fr, _, g1, (Post.bind [(v1, o1)] m1).mono fun xs ρ2 F3 H3 s3 m2 vs hv g3 => ?_⟩
  exact m2 F3 H3 (Sub.refl _) (v1 :: vs) hv (g3.perm List.perm_middle)
theorem dr_io (i : Nat) {es : List Expr} {as : List Ar} (hr : DenAr X Γ W es as) (hN : X.N[i]? = some x := by rfl) (hv : Vis X.env.scope x := by first | exact Or.inl rfl | exact Or.inr (Or.inl rfl) | exact Or.inr (Or.inr rfl)) (hd : (x == ("__debug__" : Str)) = false := by decide)
    (hcd : (x == ("__classdict__" : Str)) = false := by decide) (hs : starEach (.Name x pos :: es) X.env = (false, eval (.Name x pos) X.env) :: starEach es X.env := by rfl) : DenAr X Γ W (.Name x pos :: es) (.io i :: as) := by
  refine pa_imp (pa_cons (pv i hN hv hd hcd) hr hs) fun σ H Q ⟨ρ, F, Fr, ts, g, m⟩ => ?_
  have m' : Post Γ W σ F Fr ts (fun xs ρ' F' H' => ∀ vs, ArOk σ (.io i :: as) xs vs → GS Γ F' Fr H' σ ρ' (avals xs vs ++ ts) → Q vs H') (match ρ[i]? with
    | some (some _) => (args as ρ).bind fun xs ρ => .ok (none :: xs) ρ
    | _ => .st) := m
  split at m'
  · rename_i o ho
    obtain ⟨v, hv⟩ := g.ok.get ho
    refine ⟨v, hv, ρ, F, Fr, ts, g, (Post.bind0 m').mono fun xs ρ2 F3 H3 s3 m2 vs hv' g3 => ?_⟩
    exact m2 F3 H3 (Sub.refl _) (v :: vs) ⟨hv, hv'⟩ g3
  · exact False.elim m'
theorem ios_hide {i : Nat} : ∀ {as : List Ar} {xs : List (Option O)} {ρ : Env} {y : Option O}, i ∉ ios as → fillA as xs (ρ.set i y) = fillA as xs ρ
  | [], _, _, _, _ => rfl
  | .io j :: r, xs, ρ, y, h => by
    have hj : j ≠ i := fun z => h (by rw [z]; exact List.mem_cons_self ..)
    cases xs with
    | nil => rfl
    | cons z xs =>
      unfold fillA
      rw [List.getElem?_set_ne (Ne.symm hj), ios_hide (as := r) fun q => h (List.mem_cons_of_mem _ q)]
  | .v _ :: r, xs, ρ, y, h => by
    cases xs with
    | nil => rfl
    | cons z xs => cases z with
      | none => rfl
      | some o => unfold fillA; rw [ios_hide (as := r) h]
  | .mv _ :: r, xs, ρ, y, h => by
    cases xs with
    | nil => rfl
    | cons z xs => cases z with
      | none => rfl
      | some o => unfold fillA; rw [ios_hide (as := r) h]
theorem fill_rep : ∀ {as : List Ar} {xs : List (Option O)} {vs : List V} {os : List O} {ρ : Env} {ts : Bag}, (ios as).Nodup → ArOk σ as xs vs → fillA as xs ρ = some os → GS Γ F Fr H σ ρ (avals xs vs ++ ts) → vs.length = os.length ∧ GS Γ F Fr H σ (hide (ios as) ρ) (vs.zip os ++ ts)
  | [], [], [], os, ρ, ts, _, _, e, g => by cases e; exact ⟨rfl, g⟩
  | [], [], _ :: _, _, _, _, _, h, _, _ => h.elim
  | [], _ :: _, _, _, _, _, _, h, _, _ => h.elim
  | .io i :: r, none :: xs, v :: vs, os, ρ, ts, nd, h, e, g => by
    have nd' := List.nodup_cons.mp nd
    unfold fillA at e
    split at e
    · rename_i o ho
      obtain ⟨os', e', rfl⟩ := Option.map_eq_some_iff.mp e
      have g1 : GS Γ F Fr H σ (ρ.set i none) ((v, o) :: (avals xs vs ++ ts)) := GS.takeAt g ho h.1
      have g2 : GS Γ F Fr H σ (ρ.set i none) (avals xs vs ++ ((v, o) :: ts)) := g1.perm List.perm_middle.symm
      obtain ⟨l, g3⟩ := fill_rep (ts := (v, o) :: ts) nd'.2 h.2 (by rw [ios_hide nd'.1]; exact e') g2
      exact ⟨by simp [l], g3.perm List.perm_middle⟩
    · cases e
  | .v _ :: r, some o :: xs, v :: vs, os, ρ, ts, nd, h, e, g => by
    obtain ⟨os', e', rfl⟩ := Option.map_eq_some_iff.mp (show (fillA r xs ρ).map (o :: ·) = some os from e)
    have g2 : GS Γ F Fr H σ ρ (avals xs vs ++ ((v, o) :: ts)) := GS.perm g List.perm_middle.symm
    obtain ⟨l, g3⟩ := fill_rep (as := r) (ts := (v, o) :: ts) nd h e' g2
    exact ⟨by simp [l], g3.perm List.perm_middle⟩
  | .mv _ :: r, some o :: xs, v :: vs, os, ρ, ts, nd, h, e, g => by
    obtain ⟨os', e', rfl⟩ := Option.map_eq_some_iff.mp (show (fillA r xs ρ).map (o :: ·) = some os from e)
    have g2 : GS Γ F Fr H σ ρ (avals xs vs ++ ((v, o) :: ts)) := GS.perm g List.perm_middle.symm
    obtain ⟨l, g3⟩ := fill_rep (as := r) (ts := (v, o) :: ts) nd h e' g2
    exact ⟨by simp [l], g3.perm List.perm_middle⟩
  | .io _ :: _, [], _, _, _, _, _, h, _, _ => by cases h
  | .io _ :: _, some _ :: _, _, _, _, _, _, h, _, _ => by cases h
  | .io _ :: _, none :: _, [], _, _, _, _, h, _, _ => by cases h
  | .v _ :: _, [], _, _, _, _, _, h, _, _ => by cases h
  | .v _ :: _, none :: _, _, _, _, _, _, h, _, _ => by cases h
  | .v _ :: _, some _ :: _, [], _, _, _, _, h, _, _ => by cases h
  | .mv _ :: _, [], _, _, _, _, _, h, _, _ => by cases h
  | .mv _ :: _, none :: _, _, _, _, _, _, h, _, _ => by cases h
  | .mv _ :: _, some _ :: _, [], _, _, _, _, h, _, _ => by cases h
def isIo : Ar → Bool
  | .io _ => true
  | _ => false
theorem back_rep : ∀ {as : List Ar} {xs : List (Option O)} {vs : List V} {outs : Env} {ρ ρ' : Env} {ts : Bag}, ArOk σ as xs vs → backA as outs ρ = some ρ' → GS Γ F Fr H σ ρ (outM (as.map isIo) vs outs ++ ts) → GS Γ F Fr H σ ρ' ts
  | [], [], [], outs, ρ, ρ', ts, _, e, g => by cases e; exact g
  | [], [], _ :: _, _, _, _, _, h, _, _ => h.elim
  | [], _ :: _, _, _, _, _, _, h, _, _ => h.elim
  | .io i :: r, none :: xs, v :: vs, outs, ρ, ρ', ts, h, e, g => by
    unfold backA at e
    split at e
    · rename_i o outs'
      split at e
      · rename_i hi
        have g1 : GS Γ F Fr H σ ρ ((v, o) :: (outM (r.map isIo) vs outs' ++ ts)) := g
        have g2 := g1.forget1 (i := i)
        exact back_rep h.2 e (g2.put hi h.1)
      · cases e
    · cases e
  | .v _ :: r, some o :: xs, v :: vs, outs, ρ, ρ', ts, h, e, g => back_rep (as := r) h e g
  | .mv _ :: r, some o :: xs, v :: vs, outs, ρ, ρ', ts, h, e, g => back_rep (as := r) h e g
  | .io _ :: _, [], _, _, _, _, _, h, _, _ => by cases h
  | .io _ :: _, some _ :: _, _, _, _, _, _, h, _, _ => by cases h
  | .io _ :: _, none :: _, [], _, _, _, _, h, _, _ => by cases h
  | .v _ :: _, [], _, _, _, _, _, h, _, _ => by cases h
  | .v _ :: _, none :: _, _, _, _, _, _, h, _, _ => by cases h
  | .v _ :: _, some _ :: _, [], _, _, _, _, h, _, _ => by cases h
  | .mv _ :: _, [], _, _, _, _, _, h, _, _ => by cases h
  | .mv _ :: _, none :: _, _, _, _, _, _, h, _, _ => by cases h
  | .mv _ :: _, some _ :: _, [], _, _, _, _, h, _, _ => by cases h
theorem ArOk.len : ∀ {as : List Ar} {xs : List (Option O)} {vs : List V}, ArOk σ as xs vs → vs.length = as.length
  | [], [], [], _ => rfl
  | .io _ :: r, none :: xs, v :: vs, h => by simp [ArOk.len h.2]
  | .v _ :: r, some _ :: xs, v :: vs, h => by simp [ArOk.len (as := r) h]
  | .mv _ :: r, some _ :: xs, v :: vs, h => by simp [ArOk.len (as := r) h]
  | [], [], _ :: _, h => h.elim
  | [], _ :: _, _, h => h.elim
  | .io _ :: _, [], _, h => by cases h
  | .io _ :: _, some _ :: _, _, h => by cases h
  | .io _ :: _, none :: _, [], h => by cases h
  | .v _ :: _, [], _, h => by cases h
  | .v _ :: _, none :: _, _, h => by cases h
  | .v _ :: _, some _ :: _, [], h => by cases h
  | .mv _ :: _, [], _, h => by cases h
  | .mv _ :: _, none :: _, _, h => by cases h
  | .mv _ :: _, some _ :: _, [], h => by cases h
/-- the step from the caller's state into the callee's promise and back -/
theorem call_ok {f : FSem} {as : List Ar} {xs : List (Option O)} {vs : List V} {Q : VK} (nd : (ios as).Nodup) (hv : ArOk σ as xs vs) (g : GS Γ F Fr H σ ρ (avals xs vs ++ ts))
    (m : Post Γ W σ F Fr ts (QE Γ σ Fr ts Q) (match fillA as xs ρ with
      | none => .st
      | some os => match f os with
        | .ok o outs => match backA as outs (hide (ios as) ρ) with
          | some ρ' => .ok o ρ'
          | none => .st
        | .exc x ds outs => match backA as outs (hide (ios as) ρ) with
          | some ρ' => .exc x ds ρ'
          | none => .st
        | .st => .st)) : spOf Γ f (as.map isIo) vs H Q (WE W σ) := by
  split at m
  · exact False.elim m
  · rename_i os ho
    obtain ⟨l, g1⟩ := fill_rep nd hv ho g
    refine ⟨os, F, Fr, ts ++ live σ (hide (ios as) ρ), l, by rw [List.length_map, ← hv.len, l], by have := g1.g; rwa [List.append_assoc] at this, ?_⟩
    split at m
    · rename_i o outs hf
      split at m
      · rename_i ρ' hb
        intro v F' H' s g2
        refine m F' H' s v ?_
        have g3 : GS Γ F' Fr H' σ (hide (ios as) ρ) (outM (as.map isIo) vs outs ++ ((v, o) :: ts)) := ⟨g1.ok, by
          refine g2.perm ?_
          have : ((v, o) :: (outM (as.map isIo) vs outs ++ (ts ++ live σ (hide (ios as) ρ))) : Bag).Perm (outM (as.map isIo) vs outs ++ ((v, o) :: (ts ++ live σ (hide (ios as) ρ)))) := List.perm_middle.symm
          rw [List.append_assoc]
          exact this⟩
        exact back_rep hv hb g3
      · exact False.elim m
    · rename_i y ds outs hf
      split at m
      · rename_i ρ' hb
        intro cls dx F' H' s g2 ex
        refine m cls dx F' H' s ?_ ex
        have g3 : GS Γ F' Fr H' σ (hide (ios as) ρ) (outM (as.map isIo) vs outs ++ ts) := ⟨g1.ok, by rw [List.append_assoc]; exact g2⟩
        exact back_rep hv hb g3
      · exact False.elim m
    · exact False.elim m
theorem de_call {k : Nat} {fa : Addr} {fd : FuncData} {ps : List Str} {f : FSem} {as : List Ar} {ar : Ar} {es : List Expr} {mask : List Bool} (Fn : FnOk X.prog X.w X.K X.mg X.base (L2.CX X.prog X.w) k fa fd ps (spOf Γ f mask)) (hr : Room k X.A) (tk : Takes X W) (hg : Gl X x) (hm : X.mg x = some (.ref fa)) (hk : PySem.W.keepIn X.K (.ref fa) = true) (hb : Binds X.K fd ps [])
    (ha : DenAr X Γ W (e :: es) (ar :: as)) (nd : (ios (ar :: as)).Nodup := by decide) (hmask : mask = (ar :: as).map isIo := by rfl) (hdb : (x == ("__debug__" : Str)) = false := by decide) (he : starEach (e :: es) X.env = (false, eval e X.env) :: starEach es X.env := by rfl) (hpl : (backTo pos (starEach es X.env)).any (·.1) = false := by rfl) :
    DenE X Γ W (.Call (.Name x p) (e :: es) [] pos) (eCall f (ar :: as)) := by
  refine pe_imp (pe_callS Fn hr hg hm hk hb (fun σ => passAt tk σ) ha hdb he hpl) fun σ H Q ⟨ρ, F, Fr, ts, g, m⟩ => ⟨ρ, F, Fr, ts, g, (Post.bind0 m).mono fun xs ρ1 F1 H1 s1 m1 vs hv g1 => ?_⟩
  subst hmask
  exact call_ok nd hv g1 m1
end
end FA
/-! FAru7: statements. -/
namespace FA
open PySem L2
section
variable {X : Cx} {Γ : Wd} {W : WX} {e a b c : Expr} {pos p : Pos} {x : Str} {ca cb cc : Ex} {pa pb : Px} {ta : Tx} {F F' Fr H H' : Hp} {σ σ' : St} {ρ ρ' : Env} {ts : Bag} {v : V} {o : O} {kp : List Nat} {D : Ends} {s t u : Stx} {st : Stmt} {rest body : List Stmt}
theorem Kept.refl : Kept kp σ σ := fun _ _ => rfl
theorem Kept.trans {σ'' : St} (h : Kept kp σ σ') (h' : Kept kp σ' σ'') : Kept kp σ σ'' := fun i hi => (h' i hi).trans (h i hi)
/-- later, from a state that keeps -/
theorem FlowP.shift {r : R Flow} (k : Kept kp σ σ') (s : Sub F F') (m : FlowP Γ W kp D σ F Fr ts r) : FlowP Γ W kp D σ' F' Fr ts r := by
  cases r with
  | ok f ρ' => cases f with
    | nx => exact fun σ2 F2 H2 k2 s2 g => m σ2 F2 H2 (k.trans k2) (s.trans s2) g
    | brk => exact fun σ2 F2 H2 k2 s2 g => m σ2 F2 H2 (k.trans k2) (s.trans s2) g
    | ret o => exact fun v σ2 F2 H2 k2 s2 g => m v σ2 F2 H2 (k.trans k2) (s.trans s2) g
  | exc x ds ρ' => exact fun cl dx σ2 F2 H2 k2 s2 g => m cl dx σ2 F2 H2 (k.trans k2) (s.trans s2) g
  | st => exact m
theorem FlowP.bind {α : Type} {r : R α} {k : α → Env → R Flow} (us : Bag) (m : FlowP Γ W kp D σ F Fr ts (r.bind k)) : Post Γ W σ F Fr (us ++ ts) (fun o ρ F' _ => FlowP Γ W kp D σ F' Fr ts (k o ρ)) r := by
  cases r with
  | ok o ρ' => exact fun F' H' s => FlowP.shift Kept.refl s m
  | exc x ds ρ' => exact fun c d F' H' s g => m c d σ F' H' Kept.refl s g.drop
  | st => exact m
theorem FlowP.bind0 {α : Type} {r : R α} {k : α → Env → R Flow} (m : FlowP Γ W kp D σ F Fr ts (r.bind k)) : Post Γ W σ F Fr ts (fun o ρ F' _ => FlowP Γ W kp D σ F' Fr ts (k o ρ)) r := FlowP.bind [] m
theorem FlowP.seq (m : FlowP Γ W kp D σ F Fr ts ((s ρ).bind fun f ρ => match f with | .nx => t ρ | f => .ok f ρ)) : FlowP Γ W kp { D with nx := tDS Γ W kp t D } σ F Fr ts (s ρ) := by
  cases e : s ρ with
  | ok f ρ' =>
    rw [e] at m
    cases f with
    | nx => exact fun σ2 F2 H2 k2 s2 g => ⟨ρ', F2, Fr, ts, g, FlowP.shift k2 s2 m⟩
    | brk => exact m
    | ret o => exact m
  | exc x ds ρ' => rw [e] at m; exact m
  | st => rw [e] at m; exact m
theorem dss_nil : DenSs X Γ W kp [] sNx := pss_imp pss_nil fun D σ H ⟨ρ, F, Fr, ts, g, m⟩ => m σ F H Kept.refl (Sub.refl _) g
theorem dss_one (h : DenS X Γ W kp st s) : DenSs X Γ W kp [st] s := pss_one h
theorem dss_cons (h : DenS X Γ W kp st s) (h2 : DenSs X Γ W kp rest t) : DenSs X Γ W kp (st :: rest) (sSeq s t) :=
  pss_imp (pss_cons h h2) fun D σ H ⟨ρ, F, Fr, ts, g, m⟩ => ⟨ρ, F, Fr, ts, g, FlowP.seq m⟩
theorem ds_pass : DenS X Γ W kp (.Pass pos) sNx := ps_imp ps_pass fun D σ H ⟨ρ, F, Fr, ts, g, m⟩ => m σ F H Kept.refl (Sub.refl _) g
theorem ds_brk : DenS X Γ W kp (.Break pos) sBrk := ps_imp ps_break fun D σ H ⟨ρ, F, Fr, ts, g, m⟩ => m σ F H Kept.refl (Sub.refl _) g
theorem ds_ret (he : DenE X Γ W e ca) : DenS X Γ W kp (.Return (some e) pos) (sRet ca) :=
  ps_imp (ps_ret he) fun D σ H ⟨ρ, F, Fr, ts, g, m⟩ => ⟨ρ, F, Fr, ts, g, (FlowP.bind0 m).mono fun o1 ρ1 F1 H1 s1 m1 v1 g1 => m1 v1 σ F1 H1 Kept.refl (Sub.refl _) g1⟩
theorem ds_retN : DenS X Γ W kp (.Return none pos) sRetN :=
  ps_imp ps_retN fun D σ H ⟨ρ, F, Fr, ts, g, m⟩ => m .non σ F H Kept.refl (Sub.refl _) (g.addF (d := .non) rfl)
theorem ds_ex (he : DenE X Γ W e ca) (hs : swapsWith e none pos.line X.env = pure false := by rfl) : DenS X Γ W kp (.Expr e pos) (sEx ca) :=
  ps_imp (ps_expr he hs) fun D σ H ⟨ρ, F, Fr, ts, g, m⟩ => ⟨ρ, F, Fr, ts, g, (FlowP.bind0 m).mono fun o1 ρ1 F1 H1 s1 m1 v1 g1 => m1 σ F1 H1 Kept.refl (Sub.refl _) g1.tail⟩
theorem ds_if {A B : List Stmt} (hc : DenT X Γ W c ta) (ha : DenSs X Γ W kp A s) (hb : DenSs X Γ W kp B t) : DenS X Γ W kp (.If c A B pos) (sIf ta s t) :=
  ps_imp (ps_if hc ha hb) fun D σ H ⟨ρ, F, Fr, ts, g, m⟩ => ⟨ρ, F, Fr, ts, g, (FlowP.bind0 m).mono fun b ρ1 F1 H1 s1 m1 g1 => by
    cases b with
    | true => exact ⟨ρ1, F1, Fr, ts, g1, m1⟩
    | false => exact ⟨ρ1, F1, Fr, ts, g1, m1⟩⟩
theorem ds_set {tg : Expr} {t : Tgt} (he : DenE X Γ W e ca) (hg : DenG X Γ tg t) (hk : ∀ i ∈ kp, i ∉ t.names := by decide) (hs : swapsWithSole [tg] e pos.line X.env = pure false := by rfl) (hw : swappedStores [tg] e X.env = pure none := by rfl)
    (h1 : (assignEach [tg] X.env).map (·.2) = [assign tg X.env] := by rfl) : DenS X Γ W kp (.Assign [tg] e pos) (sSet t ca) :=
  ps_imp (ps_asg he hg hs hw h1) fun D σ H ⟨ρ, F, Fr, ts, g, m⟩ => ⟨ρ, F, Fr, ts, g, (FlowP.bind0 m).mono fun o1 ρ1 F1 H1 s1 m1 v1 g1 => by
    split at m1
    · rename_i ρ2 e2
      exact ⟨ρ1, F1, Fr, ts, o1, ρ2, g1, e2, fun σ2 oa g2 => m1 σ2 F1 H1 (oa.kept hk) (Sub.refl _) g2⟩
    · exact False.elim m1⟩
theorem ds_for {tg : Expr} {t : Tgt} {it : Itx} {body : List Stmt} (hp : PassesOwn (model X.prog X.w) X.A X.env X.xe) (hc : X.calm = true) (hi : DenI X Γ W tg e it) (hg : DenG X Γ tg t) (hb : DenSs X Γ W kp body s) (hk : ∀ i ∈ kp, i ∉ t.names := by decide)
    (hs : ∀ x, foldedSetIterable e X.env x = pure x := by intro _; rfl) : DenS X Γ W kp (.For tg e body [] pos) (sFor t it s) := by
  refine ps_imp (ps_for hp hc hi hg hb hs) fun D σ H ⟨ρ, F, Fr, ts, g, m⟩ => ⟨ρ, F, Fr, ts, g, (FlowP.bind0 m).mono fun ds ρ0 F1 H1 s1 m1 J g1 wk => ?_⟩
  refine ⟨fun i n σ2 H2 => n = ds.length - i ∧ i ≤ ds.length ∧ Kept kp σ σ2 ∧ ∃ ρi F2, Sub F1 F2 ∧ GS Γ F2 Fr H2 σ2 ρi ts ∧ FlowP Γ W kp D σ2 F2 Fr ts (forL t s (ds.drop i) ρi), ⟨ds.length, rfl, Nat.zero_le _, Kept.refl, ρ0, F1, Sub.refl _, g1, m1⟩, ?_⟩
  rintro i n σ2 H2 ⟨rfl, hi, k2, ρi, F2, s2, g2, m2⟩
  by_cases hlt : i < ds.length
  · right
    refine ⟨wk.go i H2 (s2.trans g2.sub) hlt, fun σ3 H3 => i + 1 ≤ ds.length ∧ Kept kp σ σ3 ∧ ∃ ρi F3, Sub F1 F3 ∧ GS Γ F3 Fr H3 σ3 ρi ts ∧ FlowP Γ W kp D σ3 F3 Fr ts (forL t s (ds.drop (i + 1)) ρi),
      fun σ3 H3 q => ⟨ds.length - (i + 1), by omega, rfl, q⟩, fun x H3 hy => ?_⟩
    obtain ⟨F3, s3, g3⟩ := wk.yld i H2 x H3 F2 _ [] _ ds[i] s2 g2.g (List.getElem?_eq_getElem hlt) hy
    rw [List.drop_eq_getElem_cons hlt] at m2
    unfold forL at m2
    split at m2
    · exact False.elim m2
    rename_i ρ3 e3
    refine ⟨ρi, F3, Fr, ts, _, ρ3, ⟨g2.ok, g3⟩, e3, fun σ3 oa g4 => ⟨ρ3, F3, Fr, ts, g4, ?_⟩⟩
    have k3 := oa.kept hk
    cases eb : s ρ3 with
    | ok f ρ4 =>
      rw [eb] at m2
      cases f with
      | nx => exact fun σ5 F5 H5 k5 s5 g5 => ⟨hlt, (k2.trans k3).trans k5, ρ4, F5, s2.trans (s3.trans s5), g5, FlowP.shift (k3.trans k5) (s3.trans s5) m2⟩
      | brk => exact fun σ5 F5 H5 k5 s5 g5 => m2 σ5 F5 H5 (k3.trans k5) (s3.trans s5) g5
      | ret o => exact fun v σ5 F5 H5 k5 s5 g5 => m2 v σ5 F5 H5 (k3.trans k5) (s3.trans s5) g5
    | exc y es ρ4 =>
      rw [eb] at m2
      exact fun cl dx σ5 F5 H5 k5 s5 g5 => m2 cl dx σ5 F5 H5 (k3.trans k5) (s3.trans s5) g5
    | st => rw [eb] at m2; exact m2
  · left
    have : i = ds.length := by omega
    subst this
    rw [List.drop_length] at m2
    exact ⟨wk.stop _ H2 (s2.trans g2.sub) (Nat.le_refl _), m2 σ2 F2 H2 Kept.refl (Sub.refl _) g2⟩
theorem ds_while {n : Nat} {body : List Stmt} (hp : PassesOwn (model X.prog X.w) X.A X.env X.xe) (hc : DenT X Γ W c ta) (hb : DenSs X Γ W kp body s) : DenS X Γ W kp (.While c body [] pos) (sWhile n ta s) := by
  refine ps_imp (ps_while hp hc hb) fun D σ H ⟨ρ, F, Fr, ts, g, m⟩ => ?_
  refine ⟨fun m σ2 H2 => Kept kp σ σ2 ∧ ∃ ρi F2, Sub F F2 ∧ GS Γ F2 Fr H2 σ2 ρi ts ∧ FlowP Γ W kp D σ2 F2 Fr ts (whileL ta s m ρi), ⟨n, Kept.refl, ρ, F, Sub.refl _, g, m⟩, ?_⟩
  rintro m σ2 H2 ⟨k2, ρi, F2, s2, g2, m2⟩
  cases m with
  | zero => exact False.elim m2
  | succ m =>
    refine ⟨ρi, F2, Fr, ts, g2, (FlowP.bind0 m2).mono fun b ρ3 F3 H3 s3 m3 g3 => ?_⟩
    cases b with
    | false => exact m3 σ2 F3 H3 Kept.refl (Sub.refl _) g3
    | true =>
      refine ⟨_, fun σ4 H4 q => ⟨m, Nat.lt_succ_self _, q⟩, ρ3, F3, Fr, ts, g3, ?_⟩
      have m4 : FlowP Γ W kp D σ2 F3 Fr ts ((s ρ3).bind fun f ρ => match f with
        | .nx => whileL ta s m ρ
        | .brk => .ok .nx ρ
        | .ret o => .ok (.ret o) ρ) := m3
      cases eb : s ρ3 with
      | ok f ρ4 =>
        rw [eb] at m4
        cases f with
        | nx => exact fun σ5 F5 H5 k5 s5 g5 => ⟨k2.trans k5, ρ4, F5, s2.trans (s3.trans s5), g5, FlowP.shift k5 s5 m4⟩
        | brk => exact m4
        | ret o => exact m4
      | exc y es ρ4 => rw [eb] at m4; exact m4
      | st => rw [eb] at m4; exact m4

/-! ### the tree of a name, changed -/
theorem mod_root {f : O → Option O} {i : Nat} (h : modL (i, []) f ρ = some ρ') : ∃ o o', ρ[i]? = some (some o) ∧ f o = some o' ∧ ρ' = ρ.set i (some o') := by
  unfold modL at h
  split at h
  · rename_i o ho
    obtain ⟨s, hs, h⟩ := Option.bind_eq_some_iff.mp h
    cases hs
    obtain ⟨s', hs', h⟩ := Option.bind_eq_some_iff.mp h
    obtain ⟨o', ho', h⟩ := Option.map_eq_some_iff.mp h
    cases ho'
    exact ⟨o, _, ho, hs', h.symm⟩
  · cases h
theorem GS.putAt {i : Nat} (g : GS Γ F Fr H σ (ρ.set i none) ((v, o) :: ts)) {o1 : O} (hi : ρ[i]? = some (some o1)) (hv : σ[i]? = some (some v)) : GS Γ F Fr H σ (ρ.set i (some o)) ts :=
  g.put (by rcases Nat.lt_or_ge i ρ.length with z | z; exact z; rw [List.getElem?_eq_none_iff.mpr z] at hi; cases hi) hv
theorem unit_flow {r : R Unit} (m : FlowP Γ W kp D σ F Fr ts (unitS r)) : Post Γ W σ F Fr ts (fun _ ρ' F' H' => GS Γ F' Fr H' σ ρ' ts → D.nx σ H') r :=
  (FlowP.bind0 m).mono fun _ ρ1 F1 H1 s1 m1 g1 => m1 σ F1 H1 Kept.refl (Sub.refl _) g1
theorem slot_lst {i : Nat} {os : List O} (g : GS Γ F Fr H σ ρ ts) (hρ : ρ[i]? = some (some (.lst os))) (hv : σ[i]? = some (some v)) :
    ∃ q vs, v = .ref q ∧ H q = some (.lst vs) ∧ vs.length = os.length ∧ G Γ F Fr H [q] (vs.zip os ++ (ts ++ live σ (ρ.set i none))) := G.openL (g.takeAt hρ hv).g
theorem slot_back {i : Nat} {os : List O} {vs : List V} {q : Addr} {o1 : O} (ok : SlotsOk σ ρ) (g : G Γ F Fr H [q] (vs.zip os ++ (ts ++ live σ (ρ.set i none)))) (hq : H q = some (.lst vs)) (l : vs.length = os.length) (hi : ρ[i]? = some (some o1)) (hv : σ[i]? = some (some (.ref q))) : GS Γ F Fr H σ (ρ.set i (some (.lst os))) ts :=
  GS.putAt (v := .ref q) ⟨ok.hid i, G.closeL g hq l⟩ hi hv
theorem lstAt_root {i : Nat} (h : lstAt (lV i) ρ = true) : ∃ os, ρ[i]? = some (some (.lst os)) := by
  unfold lstAt lV atL at h
  simp only [Option.bind_some] at h
  split at h
  · rename_i os e
    split at e
    · rename_i o ho
      cases e
      exact ⟨os, ho⟩
    · cases e
  · cases h
theorem zip_app {α β : Type} : ∀ {a a' : List α} {b b' : List β}, a.length = b.length → (a ++ a').zip (b ++ b') = a.zip b ++ a'.zip b' := by
  intro a a' b b' h
  exact List.zip_append h
theorem ds_app (i : Nat) {apos cpos : Pos} (hK : X.K = Γ.K) (he : DenE X Γ W e ca) (hN : X.N[i]? = some x := by rfl) (hv : Vis X.env.scope x := by first | exact Or.inl rfl | exact Or.inr (Or.inl rfl) | exact Or.inr (Or.inr rfl)) (hd : (x == ("__debug__" : Str)) = false := by decide)
    (hcd : (x == ("__classdict__" : Str)) = false := by decide)
    (hbase : attributeBase (.Name x p) "append" X.env (eval (.Name x p) X.env) = eval (.Name x p) X.env := by rfl)
    (hfew : ((backTo cpos (starEach [e] X.env)).all (fun x => !x.1) && (backToKw cpos (keywordEach [] X.env)).all (fun x => x.1.isSome)
      && decide ([e].length + ([] : List Keyword).length + (if ([] : List Keyword).isEmpty then 0 else 1) < 30)) = true := by rfl)
    (hline : (apos.endLine == cpos.line) = true := by rfl) (hs : starEach [e] X.env = (false, eval e X.env) :: starEach [] X.env := by rfl) (hplain : (backTo cpos (starEach [] X.env)).any (·.1) = false := by rfl)
    (hsw : swapsWith (.Call (.Attribute (.Name x p) "append" apos) [e] [] cpos) none pos.line X.env = pure false := by rfl) :
    DenS X Γ W kp (.Expr (.Call (.Attribute (.Name x p) "append" apos) [e] [] cpos) pos) (sApp (lV i) ca) := by
  refine ps_imp (ps_expr (pe_bm PySem.F.plainAttrs_list PySem.F.slot_list_append PySem.F.type_list_append mt_append (pv i hN hv hd hcd) (pa_cons he pa_nil hs) hbase hfew hline hs hplain) hsw) fun D σ H ⟨ρ, F, Fr, ts, g, m⟩ => ?_
  unfold sApp at m
  split at m
  case isFalse => exact False.elim m
  rename_i hl
  obtain ⟨os, hos⟩ := lstAt_root hl
  obtain ⟨v, hv⟩ := g.ok.get hos
  obtain ⟨q, vs, rfl, hq, _, _⟩ := slot_lst g hos hv
  have m2 : Post Γ W σ F Fr ts (fun _ ρ' F' H' => GS Γ F' Fr H' σ ρ' ts → D.nx σ H') ((ca ρ).bind fun x ρ => match modL (i, []) (fun s => appO s x) ρ with | some ρ' => .ok () ρ' | none => .st) := unit_flow m
  refine ⟨.ref q, hv, .inl ⟨rfl, vs, .inl (.inl hq)⟩, ρ, F, Fr, ts, g, (Post.bind0 m2).mono fun o1 ρ1 F1 H1 s1 m1 v1 g1 => ?_⟩
  split at m1
  case h_2 => exact False.elim m1
  rename_i ρ2 e2
  obtain ⟨o, o', ho, e3, rfl⟩ := mod_root e2
  obtain ⟨os', rfl⟩ : ∃ os', o = .lst os' := by
    cases o with
    | lst os' => exact ⟨os', rfl⟩
    | _ => simp [appO] at e3
  have e3 : (if os'.length < line then some (O.lst (os' ++ [o1])) else none) = some o' := e3
  split at e3
  case isFalse => cases e3
  rename_i hz
  cases e3
  obtain ⟨q', vs', hqq, hq', l, g2⟩ := slot_lst g1 ho hv
  cases hqq
  refine ⟨q, vs', v1, rfl, rfl, hq', by rw [l]; exact hz, m1 F1 _ (Sub.refl _) ?_⟩
  have g3 : G Γ F1 Fr (upd H1 q (.lst (vs' ++ [v1]))) [q] ((vs' ++ [v1]).zip (os' ++ [o1]) ++ (ts ++ live σ (ρ1.set i none))) := by
    rw [zip_app l, List.append_assoc]
    exact G.write g2
  exact slot_back g1.ok g3 upd_same (by simp [l]) ho hv
theorem ds_ext (i : Nat) {apos cpos : Pos} (hK : X.K = Γ.K) (he : DenE X Γ W e ca) (hN : X.N[i]? = some x := by rfl) (hv : Vis X.env.scope x := by first | exact Or.inl rfl | exact Or.inr (Or.inl rfl) | exact Or.inr (Or.inr rfl)) (hd : (x == ("__debug__" : Str)) = false := by decide)
    (hcd : (x == ("__classdict__" : Str)) = false := by decide)
    (hbase : attributeBase (.Name x p) "extend" X.env (eval (.Name x p) X.env) = eval (.Name x p) X.env := by rfl)
    (hfew : ((backTo cpos (starEach [e] X.env)).all (fun x => !x.1) && (backToKw cpos (keywordEach [] X.env)).all (fun x => x.1.isSome)
      && decide ([e].length + ([] : List Keyword).length + (if ([] : List Keyword).isEmpty then 0 else 1) < 30)) = true := by rfl)
    (hline : (apos.endLine == cpos.line) = true := by rfl) (hs : starEach [e] X.env = (false, eval e X.env) :: starEach [] X.env := by rfl) (hplain : (backTo cpos (starEach [] X.env)).any (·.1) = false := by rfl)
    (hsw : swapsWith (.Call (.Attribute (.Name x p) "extend" apos) [e] [] cpos) none pos.line X.env = pure false := by rfl) :
    DenS X Γ W kp (.Expr (.Call (.Attribute (.Name x p) "extend" apos) [e] [] cpos) pos) (sExt (lV i) ca) := by
  refine ps_imp (ps_expr (pe_bm PySem.F.plainAttrs_list PySem.F.slot_list_extend PySem.F.type_list_extend mt_extend (pv i hN hv hd hcd) (pa_cons he pa_nil hs) hbase hfew hline hs hplain) hsw) fun D σ H ⟨ρ, F, Fr, ts, g, m⟩ => ?_
  unfold sExt at m
  split at m
  case isFalse => exact False.elim m
  rename_i hl
  obtain ⟨os, hos⟩ := lstAt_root hl
  obtain ⟨v, hv⟩ := g.ok.get hos
  obtain ⟨q, vs, rfl, hq, _, _⟩ := slot_lst g hos hv
  have m2 : Post Γ W σ F Fr ts (fun _ ρ' F' H' => GS Γ F' Fr H' σ ρ' ts → D.nx σ H') ((ca ρ).bind fun x ρ => match modL (i, []) (fun s => extO s x) ρ with | some ρ' => .ok () ρ' | none => .st) := unit_flow m
  refine ⟨.ref q, hv, .inl ⟨rfl, vs, .inl (.inl hq)⟩, ρ, F, Fr, ts, g, (Post.bind0 m2).mono fun o1 ρ1 F1 H1 s1 m1 v1 g1 => ?_⟩
  split at m1
  case h_2 => exact False.elim m1
  rename_i ρ2 e2
  obtain ⟨o, o', ho, e3, rfl⟩ := mod_root e2
  obtain ⟨os', rfl⟩ : ∃ os', o = .lst os' := by
    cases o with
    | lst os' => exact ⟨os', rfl⟩
    | _ => simp [extO] at e3
  obtain ⟨F2, s2, g1⟩ := g1.freeze
  have e3 : (match o1.fr with | .lst ds => if os'.length + ds.length ≤ line then some (O.lst (os' ++ ds.map .fz)) else none | _ => none) = some o' := e3
  split at e3
  case h_2 => cases e3
  rename_i ds hds
  rw [hds] at g1
  split at e3
  case isFalse => cases e3
  rename_i hz
  cases e3
  obtain ⟨b, ws, rfl, hb, rb⟩ := g1.fzF
  obtain ⟨q', vs', hqq, hq', l, g2⟩ := slot_lst g1.tail ho hv
  cases hqq
  refine ⟨q, b, vs', ws, rfl, rfl, hq', g1.sub _ _ hb, by rw [l, rb.len]; exact hz, m1 F2 _ s2 ?_⟩
  have g3 : G Γ F2 Fr (upd H1 q (.lst (vs' ++ ws))) [q] ((vs' ++ ws).zip (os' ++ ds.map .fz) ++ (ts ++ live σ (ρ1.set i none))) := by
    rw [zip_app l, List.append_assoc]
    have g4 := zipFz rb (G.write (u := .lst (vs' ++ ws)) g2)
    exact g4.perm (List.perm_append_comm_assoc _ _ _)
  exact slot_back g1.ok g3 upd_same (by simp [l, rb.len]) ho hv
theorem zip_set {α β : Type} : ∀ {a : List α} {b : List β} {n : Nat} {x : α} {y : β}, a.length = b.length → n < a.length → ∃ p, (a.zip b).Perm (p :: (a.zip b).eraseIdx n) ∧ ((a.set n x).zip (b.set n y)).Perm ((x, y) :: (a.zip b).eraseIdx n)
  | a :: as, b :: bs, 0, x, y, h, _ => ⟨(a, b), .refl _, .refl _⟩
  | a :: as, b :: bs, n + 1, x, y, h, hn => by
    obtain ⟨p, h1, h2⟩ := zip_set (a := as) (b := bs) (n := n) (x := x) (y := y) (by simpa using h) (by simpa using hn)
    exact ⟨p, (h1.cons _).trans (.swap _ _ _), (h2.cons _).trans (.swap _ _ _)⟩
  | [], _, _, _, _, _, hn => by simp at hn
  | _ :: _, [], _, _, _, h, _ => by simp at h
theorem ds_setI (i : Nat) {k : Expr} {ck : Ex} {tpos : Pos} (hK : X.K = Γ.K) (he : DenE X Γ W e ca) (hkk : DenE X Γ W k ck) (hN : X.N[i]? = some x := by rfl) (hv : Vis X.env.scope x := by first | exact Or.inl rfl | exact Or.inr (Or.inl rfl) | exact Or.inr (Or.inr rfl)) (hd : (x == ("__debug__" : Str)) = false := by decide)
    (hcd : (x == ("__classdict__" : Str)) = false := by decide)
    (ha : ∀ v, assign (.Subscript (.Name x p) k tpos) X.env v = (do
      let ov ← holding [v] (eval (.Name x p) X.env)
      let iv ← holding [v, ov] (eval k X.env)
      standAt tpos
      holding [v, ov, iv] (setItem ov iv v)
      release [v, ov, iv] []) := by intro _; rfl)
    (hs : swapsWithSole [.Subscript (.Name x p) k tpos] e pos.line X.env = pure false := by rfl) (hw : swappedStores [.Subscript (.Name x p) k tpos] e X.env = pure none := by rfl)
    (h1 : (assignEach [.Subscript (.Name x p) k tpos] X.env).map (·.2) = [assign (.Subscript (.Name x p) k tpos) X.env] := by rfl) :
    DenS X Γ W kp (.Assign [.Subscript (.Name x p) k tpos] e pos) (sSetI (lV i) ck ca) := by
  refine ps_imp (ps_asg he (pg_sub (pv i hN hv hd hcd) hkk set_list ha) hs hw h1) fun D σ H ⟨ρ, F, Fr, ts, g, m⟩ => ⟨ρ, F, Fr, ts, g, (FlowP.bind0 m).mono fun o1 ρ1 F1 H1 s1 m1 v1 g1 => ?_⟩
  split at m1
  case isFalse => exact False.elim m1
  rename_i hl
  obtain ⟨oo, hoo⟩ : ∃ o, ρ1[i]? = some (some o) := by
    unfold isAt lV atL at hl
    simp only [Option.bind_some] at hl
    split at hl
    · rename_i o ho
      exact ⟨o, ho⟩
    · cases hl
  obtain ⟨ov, hov⟩ := g1.ok.get hoo
  have m2 : Post Γ W σ F1 Fr ts (fun _ ρ' F' H' => GS Γ F' Fr H' σ ρ' ts → D.nx σ H') ((ck ρ1).bind fun k ρ => match modL (i, []) (fun s => setItemO k.fr o1 s) ρ with | some ρ' => .ok () ρ' | none => .st) := unit_flow m1
  refine ⟨ov, hov, ρ1, F1, Fr, _, g1, (Post.bind [(v1, o1)] m2).mono fun o2 ρ2 F2 H2 s2 m3 v2 g2 => ?_⟩
  split at m3
  case h_2 => exact False.elim m3
  rename_i ρ3 e2
  obtain ⟨o, o', ho, e3, rfl⟩ := mod_root e2
  cases o with
  | lst os =>
    obtain ⟨F3, s3, g2⟩ := g2.freeze
    have e3 : (match o2.fr with | .int i => (idx os.length i).map fun n => O.lst (os.set n o1) | _ => none) = some o' := e3
    split at e3
    case h_2 => cases e3
    rename_i j hj
    rw [hj] at g2
    obtain ⟨n, hn, rfl⟩ := Option.map_eq_some_iff.mp e3
    obtain ⟨q, vs, rfl, hq, l, g3⟩ := slot_lst g2.tail ho hov
    refine ⟨q, vs, j, n, rfl, g2.fzF, hq, by rw [l]; exact idx_ix hn, m3 F3 _ s3 ?_⟩
    have hlt : n < vs.length := (ixN_seq (by rw [l]; exact idx_ix hn)).2.1
    obtain ⟨pp, h1, h2⟩ := zip_set (x := v1) (y := o1) l hlt
    have g4 : G Γ F3 Fr (upd H2 q (.lst (vs.set n v1))) [q] ((vs.set n v1).zip (os.set n o1) ++ (ts ++ live σ (ρ2.set i none))) := by
      have g5 := G.write (u := .lst (vs.set n v1)) g3
      have g6 : G Γ F3 Fr (upd H2 q (.lst (vs.set n v1))) [q] (pp :: ((v1, o1) :: ((vs.zip os).eraseIdx n ++ (ts ++ live σ (ρ2.set i none))))) := g5.perm (by
        refine (h1.append_right _).trans ?_
        exact (List.perm_middle (l₁ := _)).cons pp)
      exact (G.tail (v := pp.1) (o := pp.2) g6).perm (h2.symm.append_right _)
    exact slot_back g2.ok g4 upd_same (by simp [l]) ho hov
  | _ => simp [setItemO] at e3

/-! ### values frozen, comprehensions set -/
theorem fz_imp {c : Ex} {Q : VK} : tD Γ W (eFz c) σ H Q → tD Γ W c σ H Q := fun ⟨ρ, F, Fr, ts, g, m⟩ => ⟨ρ, F, Fr, ts, g, (Post.bind0 m).mono fun o1 ρ1 F1 H1 s1 m1 v1 g1 => by
  obtain ⟨F2, s2, g2⟩ := g1.freeze
  exact m1 F2 H1 s2 v1 g2⟩
theorem de_fz (he : DenE X Γ W e ca) : DenE X Γ W e (eFz ca) := pe_imp he fun _ _ _ => fz_imp
theorem ds_setLc (hc : X.calm = true) (hN : X.N.Nodup) {y : Str} {py spos : Pos} {i : Nat} {elt tg iter : Expr} {ifs : List Expr} {scope : Scope} {own : List (Str × Nat)} {it : Itx} {t : Tgt} {conds : Tx} {ce c2 : Ex}
    (hi : DenI X Γ W tg iter it) (ok : BlkOk X.N X.env.scope scope own)
    (hg : ∀ (s : Shared) (H : Hp) (C : Addr) (cl : List (Str × Addr)) (fp : List Addr), DenG (X.blk s H scope (compEnvC scope cl C X.env) fp) Γ tg t) (ht : ∀ (s : Shared) (H : Hp) (C : Addr) (cl : List (Str × Addr)) (fp : List Addr), DenTs (X.blk s H scope (compEnvC scope cl C X.env) fp) Γ W0 ifs conds)
    (he : ∀ (s : Shared) (H : Hp) (C : Addr) (cl : List (Str × Addr)) (fp : List Addr), DenE (X.blk s H scope (compEnvC scope cl C X.env) fp) Γ W0 elt ce)
    (hsw : swapsWith (.ListComp elt [⟨tg, iter, ifs, 0⟩] scope pos) (some (.Name y py)) spos.line X.env = pure true)
    (h2 : ∀ {σ : St} {H : Hp} {Q : VK}, tD Γ W c2 σ H Q → tD Γ W (eComp (own.map (·.2)) t it conds ce) σ H Q)
    (hy : X.N[i]? = some y := by rfl) (hyl : X.env.scope.names.lookup y = some .local := by rfl)
    (hnm : ∀ i ∈ t.names, i ∈ own.map (·.2) := by decide) (hk : ¬ i ∈ kp := by decide) (hs : ∀ x, foldedSetIterable iter X.env x = pure x := by intro _; rfl) :
    DenS X Γ W kp (.Assign [.Name y py] (.ListComp elt [⟨tg, iter, ifs, 0⟩] scope pos) spos) (sSet (.nm i) c2) :=
  ps_imp (ps_setLc hc hN hy hyl hsw hi ok hg ht he hs) fun D σ H ⟨ρ, F, Fr, ts, g, m⟩ => comp_imp hnm (h2 ⟨ρ, F, Fr, ts, g, (FlowP.bind0 m).mono fun o1 ρ1 F1 H1 s1 m1 v1 g1 => by
    split at m1
    case h_2 => exact False.elim m1
    rename_i ρ2 e2
    unfold asgn at e2
    split at e2
    case isFalse => cases e2
    rename_i hl
    cases e2
    refine m1 _ F1 H1 (fun j hj => ?_) (Sub.refl _) (g1.store hl)
    have : j ≠ i := fun z => hk (z ▸ hj)
    rw [List.getElem?_set_ne (Ne.symm this)]⟩)
end
end FA
/-! FAfn: a def does as its meaning says. -/
namespace FA
open PySem PyProof.Rows L2
def ioOf : Nat → List Bool → List Nat
  | _, [] => []
  | j, true :: m => j :: ioOf (j + 1) m
  | j, false :: m => ioOf (j + 1) m
section
variable {Γ : Wd} {F F' Fr H H' : Hp} {σ σ' : L2.St} {ρ ρ' : Env} {ts : Bag} {v : V} {o : O}
theorem ioOf_ge : ∀ {m : List Bool} {j i : Nat}, i ∈ ioOf j m → j ≤ i
  | true :: m, j, i, h => by
    rcases List.mem_cons.mp h with rfl | h
    · exact Nat.le_refl _
    · exact Nat.le_of_succ_le (ioOf_ge h)
  | false :: m, j, i, h => Nat.le_of_succ_le (ioOf_ge (m := m) h)
theorem outs_hide {i : Nat} {y : Option O} : ∀ {is : List Nat} {ρ : Env}, i ∉ is → outsOf is (ρ.set i y) = outsOf is ρ
  | [], _, _ => rfl
  | j :: r, ρ, h => by
    have hj : j ≠ i := fun z => h (by rw [z]; exact List.mem_cons_self ..)
    unfold outsOf
    rw [List.getElem?_set_ne (Ne.symm hj), outs_hide (is := r) fun q => h (List.mem_cons_of_mem _ q)]
theorem outs_rep : ∀ {m : List Bool} {j : Nat} {vs : List V} {ρ : Env} {outs : Env} {ts : Bag}, m.length = vs.length → (∀ i, i ∈ ioOf j m → σ[i]? = (vs[i - j]?).map some) → outsOf (ioOf j m) ρ = some outs → GS Γ F Fr H σ ρ ts → ∃ ρ', GS Γ F Fr H σ ρ' (outM m vs outs ++ ts)
  | [], _, vs, ρ, outs, ts, l, _, e, g => ⟨ρ, by cases vs with | nil => exact g | cons _ _ => simp at l⟩
  | b :: m, j, [], _, _, _, l, _, _, _ => by simp at l
  | true :: m, j, v :: vs, ρ, outs, ts, l, hs, e, g => by
    have e : outsOf (j :: ioOf (j + 1) m) ρ = some outs := e
    unfold outsOf at e
    split at e
    · rename_i o ho
      obtain ⟨outs', e', rfl⟩ := Option.map_eq_some_iff.mp e
      have hv : σ[j]? = some (some v) := by
        have := hs j (List.mem_cons_self ..)
        rw [Nat.sub_self] at this
        simpa using this
      have g1 := g.takeAt ho hv
      have hn : j ∉ ioOf (j + 1) m := fun z => absurd (ioOf_ge z) (by omega)
      rw [← outs_hide (y := none) hn] at e'
      obtain ⟨ρ', g2⟩ := outs_rep (m := m) (j := j + 1) (vs := vs) (by simpa using l) (fun i hi => by
        have h1 := hs i (List.mem_cons_of_mem _ hi)
        have h2 := ioOf_ge hi
        rw [h1]
        have : i - j = (i - (j + 1)) + 1 := by omega
        rw [this, List.getElem?_cons_succ]) e' g1
      exact ⟨ρ', g2.perm List.perm_middle⟩
    · cases e
  | false :: m, j, v :: vs, ρ, outs, ts, l, hs, e, g =>
    outs_rep (m := m) (j := j + 1) (vs := vs) (by simpa using l) (fun i hi => by
      have h1 := hs i hi
      have h2 := ioOf_ge hi
      rw [h1]
      have : i - j = (i - (j + 1)) + 1 := by omega
      rw [this, List.getElem?_cons_succ]) e g
theorem slots_none : ∀ n : Nat, SlotsOk (List.replicate n none) (List.replicate n none)
  | 0 => trivial
  | n + 1 => ⟨fun _ z => (by cases z), slots_none n⟩
theorem live_nones : ∀ n : Nat, live (List.replicate n none) (List.replicate n none) = []
  | 0 => rfl
  | n + 1 => live_nones n
theorem start_ok : ∀ {vs : List V} {os : List O} (n : Nat), vs.length = os.length → SlotsOk (vs.map some ++ List.replicate n none) (os.map some ++ List.replicate n none) ∧ live (vs.map some ++ List.replicate n none) (os.map some ++ List.replicate n none) = vs.zip os
  | [], [], n, _ => ⟨slots_none n, live_nones n⟩
  | v :: vs, o :: os, n, h => by
    obtain ⟨h1, h2⟩ := start_ok (vs := vs) (os := os) n (by simpa using h)
    exact ⟨⟨fun x _ => ⟨v, rfl⟩, h1⟩, congrArg ((v, o) :: ·) h2⟩
  | [], _ :: _, _, h => by simp at h
  | _ :: _, [], _, h => by simp at h
theorem start_get {vs : List V} {n i : Nat} (h : i < vs.length) : (vs.map some ++ List.replicate n none)[i]? = (vs[i]?).map some := by
  rw [List.getElem?_append_left (by simpa using h), List.getElem?_map]
theorem ioOf_lt : ∀ {m : List Bool} {j i : Nat}, i ∈ ioOf j m → i < j + m.length
  | true :: m, j, i, h => by
    rcases List.mem_cons.mp h with rfl | h
    · simp
    · have := ioOf_lt h; simp; omega
  | false :: m, j, i, h => by have := ioOf_lt (m := m) h; simp; omega
end
section
variable {P : Program} {w : World} {K : PySem.W.Frag} {mg : Str → Option Value} {base : Heap} {x qual : Str} {params : Arguments} {body : List Stmt} {scope : Scope} {dvs : List V} {kws : List (Str × V)} {f : Addr} {fd : FuncData} {N ps : List Str} {k : Nat} {Γ : Wd} {stx : Stx}
theorem fn_den (Fu : FunD K x qual params body scope dvs kws f fd) (S : FnScope N ps scope) (mask : List Bool) (n np : Nat) (io : List Nat)
    (hb : ∀ (cdv : Value) (A : Around) (outer : List PySem.Env) (s : Shared) (H : Hp) (E : XK), Room k (A.deeper (envOfC qual scope s.heap.objs.size f cdv)) → DenSs (cxOf (L2.CX P w) P w K mg base N qual scope f cdv A outer s H E) Γ (fun cls d _ H => E cls d H) io body stx)
    (hn : n = N.length := by rfl) (hnp : np = ps.length := by rfl) (hio : io = ioOf 0 mask := by rfl) (hm : mask.length = np := by rfl) (hle : np ≤ n := by decide) : FnOk P w K mg base (L2.CX P w) (k + 1) f fd ps (spOf Γ (runDef n np io stx) mask) := by
  subst hn hnp hio
  refine Fu.ok S (fun vs H Q E h => ?_) (fun cdv A outer s H vs Q E hr h => ⟨_, hb cdv A outer s H E hr, ?_⟩)
  · obtain ⟨os, F, Fr, ts, l, lm, _⟩ := h
    rw [l, ← lm, hm]
  · obtain ⟨os, F, Fr, ts, l, lm, g, q⟩ := h
    have lv : vs.length = ps.length := by rw [l, ← lm, hm]
    have lo : os.length = ps.length := by rw [← lm, hm]
    obtain ⟨ok, lve⟩ := start_ok (N.length - ps.length) l
    have est : L2.start N vs = vs.map some ++ List.replicate (N.length - ps.length) none := by unfold L2.start; rw [lv]
    have g0 : GS Γ F Fr H (L2.start N vs) (os.map some ++ List.replicate (N.length - ps.length) none) ts := by
      rw [est]
      exact ⟨ok, by rw [lve]; exact g.perm List.perm_append_comm⟩
    refine ⟨_, F, Fr, ts, g0, ?_⟩
    have back : ∀ {ρ' : Env} {outs : Env} {us : Bag} {σ' : L2.St} {F' H' : Hp}, Kept (ioOf 0 mask) (L2.start N vs) σ' → GS Γ F' Fr H' σ' ρ' us → outsOf (ioOf 0 mask) ρ' = some outs → G Γ F' Fr H' [] (outM mask vs outs ++ us) := by
      intro ρ' outs us σ' F' H' kp g1 e
      obtain ⟨ρ2, g2⟩ := outs_rep (σ := σ') (m := mask) (j := 0) (vs := vs) (by rw [hm, lv]) (fun i hi => by
        rw [kp i hi, est, Nat.sub_zero]
        exact start_get (by have := ioOf_lt hi; omega)) e g1
      have g3 := g2.g
      have g4 : G Γ F' Fr H' [] (live σ' ρ2 ++ (outM mask vs outs ++ us)) := g3.perm List.perm_append_comm
      exact g4.drop
    unfold runDef at q
    rw [if_pos lo] at q
    cases eb : stx (os.map some ++ List.replicate (N.length - ps.length) none) with
    | st => rw [eb] at q; exact q
    | exc y ds ρ' =>
      rw [eb] at q
      intro cls dx σ' F' H' kp sF g1 ex
      cases eo : outsOf (ioOf 0 mask) ρ' with
      | none => simp only [eo] at q
      | some outs =>
        simp only [eo] at q
        exact q cls dx F' H' sF (back kp g1 eo) ex
    | ok fl ρ' =>
      rw [eb] at q
      cases fl with
      | brk => exact False.elim q
      | nx =>
        intro σ' F' H' kp sF g1
        cases eo : outsOf (ioOf 0 mask) ρ' with
        | none => simp only [eo] at q
        | some outs =>
          simp only [eo] at q
          exact q .non F' H' sF ((back kp g1 eo).addF (d := .non) rfl)
      | ret o =>
        intro v σ' F' H' kp sF g1
        cases eo : outsOf (ioOf 0 mask) ρ' with
        | none => simp only [eo] at q
        | some outs =>
          simp only [eo] at q
          exact q v F' H' sF ((back kp g1 eo).perm List.perm_middle)
end
end FA
/-! FAru8: more operations; calls by name. -/
namespace FA
open PySem L2
section
variable {X : Cx} {Γ : Wd} {W : WX} {e a b c : Expr} {pos p : Pos} {x : Str} {ca cb cc : Ex} {pa pb : Px}
theorem room65 {k : Nat} {A : Around} (hr : Room k A) : A.units + 65 < cLine := by have := hr.un; omega
/-- whole numbers multiplied -/
theorem s_mul : Op2S X Γ (binaryOp .Mult) opMulI := s_ints op_mul fun a b o e => by
  cases a <;> cases b <;> simp [opMulI] at e
  obtain ⟨h, e⟩ := e
  subst e
  refine ⟨_, _, _, rfl, rfl, ?_, rfl, fun _ => rfl⟩
  simp [smallI] at h
  unfold CMul
  omega
theorem ii_of {T : String} (h : ∀ d o, opIsInst T d = some o → opIsTy T d = some o) {σ : St} {H : Hp} {Q : VK} : tD Γ W (e1 (opIsInst T) ca) σ H Q → tD Γ W (e1 (opIsTy T) ca) σ H Q := fun ⟨ρ, F, Fr, ts, g, m⟩ => ⟨ρ, F, Fr, ts, g, by
  unfold e1 at m ⊢
  cases e : ca ρ with
  | exc y ds ρ' => rw [e] at m; exact m
  | st => rw [e] at m; exact m
  | ok o ρ' =>
    rw [e] at m
    have m : Post Γ W σ F Fr ts (QE Γ σ Fr ts Q) (ofOpt (opIsInst T o.fr) ρ') := m
    show Post Γ W σ F Fr ts (QE Γ σ Fr ts Q) (ofOpt (opIsTy T o.fr) ρ')
    cases e2 : opIsInst T o.fr with
    | none => rw [e2] at m; exact False.elim m
    | some z => rw [e2] at m; rw [h _ _ e2]; exact m⟩
theorem ii_str (d : D) (o : O) : opIsInst "str" d = some o → opIsTy "str" d = some o := by
  cases d <;> intro h <;> first | (cases h; done) | (cases h; decide +kernel) | exact h
theorem ii_bool (d : D) (o : O) : opIsInst "bool" d = some o → opIsTy "bool" d = some o := by
  cases d <;> intro h <;> first | (cases h; done) | (cases h; decide +kernel) | exact h
theorem de_isInst {T : String} {pT : Pos} (h : ∀ d o, opIsInst T d = some o → opIsTy T d = some o) (hg : Gl X "isinstance") (hm : X.mg "isinstance" = none) (hv : bootBuiltins "isinstance" = some (.builtin "isinstance")) (hg2 : Gl X (Str.ofString T)) (hm2 : X.mg (Str.ofString T) = none) (hv2 : bootBuiltins (Str.ofString T) = some (.type T))
    (ha : DenE X Γ W a ca) (hs : starEach [a, .Name (Str.ofString T) pT] X.env = (false, eval a X.env) :: starEach [.Name (Str.ofString T) pT] X.env := by rfl) (hs2 : starEach [.Name (Str.ofString T) pT] X.env = (false, eval (.Name (Str.ofString T) pT) X.env) :: starEach [] X.env := by rfl)
    (hpl : (backTo pos (starEach [.Name (Str.ofString T) pT] X.env)).any (·.1) = false := by rfl) (hn : (Str.ofString T) ≠ "__name__" := by decide) (hdb : ((Str.ofString T) == ("__debug__" : Str)) = false := by decide) :
    DenE X Γ W (.Call (.Name "isinstance" p) [a, .Name (Str.ofString T) pT] [] pos) (e1 (opIsInst T) ca) :=
  pe_imp (de_isTy hg hm hv hg2 hm2 hv2 ha hs hs2 hpl hn hdb) fun _ _ _ => ii_of h
/-- a def stands under its name and keeps its promise -/
def OkF (P : Program) (w : World) (K : PySem.W.Frag) (mg : Str → Option Value) (base : Heap) (Γ : Wd) (k : Nat) (x : Str) (ps : List Str) (f : FSem) (mask : List Bool) : Prop :=
  ∃ (fa : Addr) (fd : FuncData), mg x = some (.ref fa) ∧ PySem.W.keepIn K (.ref fa) = true ∧ Binds K fd ps [] ∧ FnOk P w K mg base (L2.CX P w) k fa fd ps (spOf Γ f mask)
theorem de_callF {k j : Nat} {ps : List Str} {f : FSem} {as : List Ar} {ar : Ar} {es : List Expr} {mask : List Bool} (h : OkF X.prog X.w X.K X.mg X.base Γ k x ps f mask) (hr : Room j X.A) (hk : k ≤ j) (tk : Takes X W) (hg : Gl X x)
    (ha : DenAr X Γ W (e :: es) (ar :: as)) (nd : (ios (ar :: as)).Nodup := by decide) (hmask : mask = (ar :: as).map isIo := by rfl) (hdb : (x == ("__debug__" : Str)) = false := by decide) (he : starEach (e :: es) X.env = (false, eval e X.env) :: starEach es X.env := by rfl) (hpl : (backTo pos (starEach es X.env)).any (·.1) = false := by rfl) :
    DenE X Γ W (.Call (.Name x p) (e :: es) [] pos) (eCall f (ar :: as)) := by
  obtain ⟨fa, fd, hm, kp, hb, Fn⟩ := h
  exact de_call Fn (hr.mono hk) tk hg hm kp hb ha nd hmask hdb he hpl
end
end FA
/-! FAend: from the law's meaning to the row. -/
namespace FA
open PySem PySem.Spec PyProof.Rows L2
def gam (P : Program) (w : World) (K : PySem.W.Frag) : Wd := ⟨P, w, K, fun _ => none, fun _ _ _ => False⟩
theorem cx_none {P : Program} {w : World} {H : Hp} {s s' : Shared} {e : Value} (z : L2.CX P w [] H s (fun _ _ _ => False) e s') : False := by
  obtain ⟨_, _, _, _, _, _, _, _, _, _, _, _, z⟩ := z
  exact z
theorem walk_ofW {l : PySem.W.OpenLaw} {n k : Nat} {q : Program} {loose : List Str} {XP : (Str → Option Value) → Heap → Prop} {YP : World → Heap → Prop} {d : DefRec} {CX : World → CXT} {x : Str}
    (hn : l.most = some n) (hn2 : n ≤ sizeLine) (hdf : d.params.defaults = []) (hr : Room k callerA)
    (F : ∀ (w : World) (mg : Str → Option Value) (fa : Addr) (h : Heap), YP w h → h.Ns mainGlobals mg → mg d.name = some (.ref fa) →
      ∃ (K : PySem.W.Frag) (fd : FuncData) (sp : Sp), K.In h ∧ (∀ (s : Shared) (u : Value), BindsTo s fd ⟨[u], []⟩ [(x, u)]) ∧
        (∀ (H : Hp) (a : Addr) (ns : List Int), ns.length ≤ n → Only H → SqL K H a (ns.map V.int) → sp [.ref a] H (fun v _ => v = .bl true) fun _ _ _ => False) ∧
        ∀ base : Heap, K.In base → base.Ns mainGlobals mg → FnOk l.prog w K mg base (CX w) k fa fd [x] sp)
    (hCX : ∀ (w : World) (H : Hp) (s : Shared) (e : Value) (s' : Shared), CX w [] H s (fun _ _ _ => False) e s' → False) :
    PySem.W.WalkO q loose XP YP l.row.toRowW d [] (fun f vs => PySem.call f vs) := by
  refine Att.attach_call hn hdf fun w s₀ s₁ mg mb fa o pm cd doc a vs ns G Y ho hd hcd hmg hobj hints hlen hg => ?_
  obtain ⟨K, fd, sp, KX, hb, hsp, hF⟩ := F w mg fa _ Y G.T.g hmg
  exact law_call KX G.T.g G.T.b G.T.builtins G.T.nolimit hg hobj hints (Nat.le_trans hlen hn2) hr hF hb (fun H hO hS => hsp H a ns hlen hO hS) fun H e s' => hCX w H s₁ e s'
theorem law_sp {P : Program} {w : World} {K : PySem.W.Frag} {f : FSem} {n : Nat} (ht : ∀ ns : List Int, ns.length ≤ n → ∃ outs, f [.fz (.scr ns)] = .ok (.fz (.bl true)) outs) (H : Hp) (a : Addr) (ns : List Int) (hl : ns.length ≤ n) (hS : SqL K H a (ns.map V.int)) :
    spOf (gam P w K) f [false] [.ref a] H (fun v _ => v = .bl true) fun _ _ _ => False := by
  obtain ⟨outs, e⟩ := ht ns hl
  refine ⟨[.fz (.scr ns)], H, fun _ => none, [], rfl, rfl, ⟨fun _ _ z => z, fun _ _ z => (by cases z), fun _ _ _ => rfl, [], List.nodup_nil, fun x hx => (by cases hx), [], [], rfl, ⟨⟨a, rfl, hS⟩, rfl⟩, rfl⟩, ?_⟩
  rw [e]
  intro v F' H' s g
  exact G.fzF g
end FA
namespace FA
section
-- is_alphabet: 0 thing, 1 letter
def body_is_alphabet : Stx := (sBlk [
  (sIf (tOr (tNot (tE (e1 (opIsInst "str") (eP (pV 0))))) (tNot (tE (eChain opLe opLe (eC (.int 1)) (e1P opLen (pV 0)) (eC (.int 5)))))) (sBlk [
    (sRet (eC (.bl false)))]) sNx),
  (sRet (e1 opAll (eComp [1] (.nm 1) (iE (eP (pV 0))) tT (eAnd (e2P opIn (eP (pV 1)) (pC (.str [97, 98, 99, 100, 101, 102, 103, 104, 105, 106, 107, 108, 109, 110, 111, 112, 113, 114, 115, 116, 117, 118, 119, 120, 121, 122]))) (e2 opEq (eM isS opCount (eP (pV 0)) (eP (pV 1))) (eC (.int 1)))))))])
def sem_is_alphabet : FSem := runDef 2 1 [] body_is_alphabet
-- is_word: 0 alphabet, 1 thing, 2 letter
def body_is_word : Stx := (sBlk [
  (sRet (eAnd (e1 (opIsInst "str") (eP (pV 1))) (e1 opAll (eComp [2] (.nm 2) (iE (eP (pV 1))) tT (e2P opIn (eP (pV 2)) (pV 0))))))])
def sem_is_word : FSem := runDef 3 2 [] body_is_word
-- codes: 0 alphabet, 1 word, 2 letter
def body_codes : Stx := (sBlk [
  (sRet (eComp [2] (.nm 2) (iE (eP (pV 1))) tT (eM isSL opIndex (eP (pV 0)) (eP (pV 2)))))])
def sem_codes : FSem := runDef 3 2 [] body_codes
-- comes_before: 0 alphabet, 1 one, 2 two
def body_comes_before : Stx := (sBlk [
  (sIf (tE (e2 opNe (e1P opLen (pV 1)) (e1P opLen (pV 2)))) (sBlk [
    (sRet (e2 opLt (e1P opLen (pV 1)) (e1P opLen (pV 2))))]) sNx),
  (sRet (e2 opLt (eCall sem_codes [.v (eP (pV 0)), .v (eP (pV 1))]) (eCall sem_codes [.v (eP (pV 0)), .v (eP (pV 2))])))])
def sem_comes_before : FSem := runDef 3 3 [] body_comes_before
-- _law_cell: 0 _law_script, 1 _law_k
def body_law_cell : Stx := (sBlk [
  (sIf (tE (e2 opLt (eP (pV 1)) (e1P opLen (pV 0)))) (sBlk [
    (sRet (eP (pIx (pV 0) (pV 1))))]) sNx),
  (sRet (eC (.int 0)))])
def sem_law_cell : FSem := runDef 2 2 [] body_law_cell
-- _law_row: 0 _law_script, 1 _law_first, 2 _law_last, 3 _law_row_here, 4 _law_k, 5 _law_cell_here, 6 _law_turn
def body_law_row : Stx := (sBlk [
  (sSet (.nm 3) (eLst [])),
  (sFor (.nm 4) (iRange (eP (pV 1)) (eP (pV 2))) (sBlk [
    (sSet (.nm 5) (eFz (eCall sem_law_cell [.v (eP (pV 0)), .v (eP (pV 4))]))),
    (sSet (.nm 5) (eFz (e2 opAdd (e1 opAbs (e2 opMulI (eC (.int 2)) (eP (pV 5)))) (e1 opInt (e2 opLt (eP (pV 5)) (eC (.int 0))))))),
    (sIf (tE (e2 opGt (eP (pV 5)) (e2 opPow (eC (.int 10)) (eC (.int 18))))) (sBlk [
      (sFor (.nm 6) (iRange1 (eC (.int 60))) (sBlk [
        (sIf (tE (e2 opGt (eP (pV 5)) (eC (.int 0)))) (sBlk [
          (sApp (lV 3) (e2 opMod (e1 opInt (eP (pV 5))) (eC (.int 840)))),
          (sSet (.nm 5) (eFz (e2 opFDiv (eP (pV 5)) (eC (.int 840)))))]) sNx)]))]) (sBlk [
      (sFor (.nm 6) (iRange1 (eC (.int 10))) (sBlk [
        (sSet (.nm 5) (eFz (e2 opMod (e1 opInt (e2 opAdd (e2 opAdd (e2 opMulI (eP (pV 5)) (eC (.int 69069))) (e2 opMulI (eC (.int 104729)) (e2 opAdd (eP (pV 4)) (eP (pV 6))))) (eC (.int 1)))) (eC (.int 4294967291))))),
        (sApp (lV 3) (e2 opMod (e1 opInt (e2 opFDiv (eP (pV 5)) (eC (.int 5003)))) (eC (.int 840))))]))]))])),
  (sRet (eFrz 3))])
def sem_law_row : FSem := runDef 7 3 [] body_law_row
-- _law_draw: 0 _law_box, 1 _law_many, 2 _law_at
def body_law_draw : Stx := (sBlk [
  (sSet (.nm 2) (eP (pIx (pV 0) (pC (.int 1))))),
  (sSetI (lV 0) (eC (.int 1)) (e2 opAdd (eP (pV 2)) (eC (.int 1)))),
  (sIf (tE (e2 opLt (eP (pV 2)) (e1P opLen (pIx (pV 0) (pC (.int 0)))))) (sBlk [
    (sRet (e2 opMod (e1 opInt (eP (pIx (pIx (pV 0) (pC (.int 0))) (pV 2)))) (eP (pV 1))))]) sNx),
  (sRet (e2 opMod (e1 opInt (e2 opAdd (e2 opMulI (eP (pV 2)) (eC (.int 5))) (eC (.int 1)))) (eP (pV 1))))])
def sem_law_draw : FSem := runDef 3 2 [0] body_law_draw
-- _law_words: 0 _law_alphabet, 1 _law_most, 2 _law_out, 3 _law_last, 4 _law_n, 5 _law_longer, 6 _law_word_here, 7 _law_letter
def body_law_words : Stx := (sBlk [
  (sSet (.nm 2) (eFz (eLst [(eC (.str []))]))),
  (sSet (.nm 3) (eFz (eLst [(eC (.str []))]))),
  (sFor (.nm 4) (iRange1 (eP (pV 1))) (sBlk [
    (sSet (.nm 5) (eLst [])),
    (sFor (.nm 6) (iE (eP (pV 3))) (sBlk [
      (sExt (lV 5) (eComp [7] (.nm 7) (iE (eP (pV 0))) tT (e2 opAdd (eP (pV 6)) (eP (pV 7)))))])),
    (sSet (.nm 3) (eFrz 5)),
    (sSet (.nm 2) (eFz (e2 opAdd (eP (pV 2)) (eP (pV 3)))))])),
  (sRet (eP (pV 2)))])
def sem_law_words : FSem := runDef 8 2 [] body_law_words
-- _law_word: 0 _law_box, 1 _law_alphabet, 2 _law_most, 3 _law_k
def body_law_word : Stx := (sBlk [
  (sRet (eM isS opJoin (eC (.str [])) (eComp [3] (.nm 3) (iRange1 (eCall sem_law_draw [.io 0, .v (e2 opAdd (eP (pV 2)) (eC (.int 1)))])) tT (e2 opItem (eP (pV 1)) (eCall sem_law_draw [.io 0, .v (e1P opLen (pV 1))])))))])
def sem_law_word : FSem := runDef 4 3 [0] body_law_word
-- _law_key: 0 _law_alphabet, 1 _law_word_here, 2 _law_letter
def body_law_key : Stx := (sBlk [
  (sRet (eTup [(e1P opLen (pV 1)), (eComp [2] (.nm 2) (iE (eP (pV 1))) tT (eM isSL opIndex (eP (pV 0)) (eP (pV 2))))]))])
def sem_law_key : FSem := runDef 3 2 [] body_law_key
-- _law_good: 0 _law_thing, 1 _law_k
def body_law_good : Stx := (sBlk [
  (sIf (tOr (tNot (tE (e1 (opIsInst "str") (eP (pV 0))))) (tOr (tE (e2 opLt (e1P opLen (pV 0)) (eC (.int 1)))) (tE (e2 opGt (e1P opLen (pV 0)) (eC (.int 5)))))) (sBlk [
    (sRet (eC (.bl false)))]) sNx),
  (sFor (.nm 1) (iRange1 (e1P opLen (pV 0))) (sBlk [
    (sIf (tOr (tE (e2 opNotIn (eP (pIx (pV 0) (pV 1))) (eC (.str [97, 98, 99, 100, 101, 102, 103, 104, 105, 106, 107, 108, 109, 110, 111, 112, 113, 114, 115, 116, 117, 118, 119, 120, 121, 122])))) (tE (e2 opIn (eP (pIx (pV 0) (pV 1))) (eSl (eP (pV 0)) none (some (eP (pV 1))))))) (sBlk [
      (sRet (eC (.bl false)))]) sNx)])),
  (sRet (eC (.bl true)))])
def sem_law_good : FSem := runDef 2 1 [] body_law_good
-- _law_is: 0 _law_told, 1 _law_due
def body_law_is : Stx := (sBlk [
  (sRet (eAnd (e1 (opIsInst "bool") (eP (pV 0))) (e2 opEq (eP (pV 0)) (eP (pV 1)))))])
def sem_law_is : FSem := runDef 2 2 [] body_law_is
-- law: 0 _law_script, 1 _law_box, 2 _law_things, 3 _law_turn, 4 _law_thing, 5 _law_alphabet, 6 _law_words_here, 7 _law_one, 8 _law_two, 9 _law_k
def body_law : Stx := (sBlk [
  (sSet (.nm 1) (eLst [(eCall sem_law_row [.v (eP (pV 0)), .v (eC (.int 0)), .v (eC (.int 12))]), (eC (.int 0))])),
  (sSet (.nm 2) (eLst [(eC (.str [])), (eC (.str [97])), (eC (.str [97, 98, 99, 100, 101])), (eC (.str [97, 98, 99, 100, 101, 102])), (eC (.str [97, 98, 97])), (eC (.str [97, 66])), (eC (.str [97, 49])), (eC (.str [122, 121, 120, 119, 118])), (eC (.int 5)), (eC (.non)), (eLst [(eC (.str [97]))]), (eC (.str [97, 32, 98]))])),
  (sFor (.nm 3) (iRange1 (eC (.int 8))) (sBlk [
    (sApp (lV 2) (eM isS opJoin (eC (.str [])) (eComp [9] (.nm 9) (iRange1 (e2 opAdd (eC (.int 1)) (eCall sem_law_draw [.io 1, .v (eC (.int 6))]))) tT (e2 opItem (eC (.str [97, 98, 99, 100, 122, 65])) (eCall sem_law_draw [.io 1, .v (eC (.int 6))])))))])),
  (sFor (.nm 4) (iE (eFrz 2)) (sBlk [
    (sIf (tNot (tE (eCall sem_law_is [.v (eCall sem_is_alphabet [.v (eP (pV 4))]), .v (eCall sem_law_good [.v (eP (pV 4))])]))) (sBlk [
      (sRet (eC (.bl false)))]) sNx)])),
  (sSet (.nm 5) (e2 opItem (eLst [(eC (.str [98, 97])), (eC (.str [99, 97, 98])), (eC (.str [122])), (eC (.str [100, 97, 99, 98, 101]))]) (eCall sem_law_draw [.io 1, .v (eC (.int 4))]))),
  (sSet (.nm 6) (eFz (eComp [9] (.nm 9) (iRange1 (eC (.int 10))) tT (eCall sem_law_word [.io 1, .v (eP (pV 5)), .v (eC (.int 6))])))),
  (sFor (.nm 7) (iE (eP (pV 6))) (sBlk [
    (sIf (tOr (tNot (tE (eCall sem_law_is [.v (eCall sem_is_word [.v (eP (pV 5)), .v (eP (pV 7))]), .v (eC (.bl true))]))) (tNot (tE (eCall sem_law_is [.v (eCall sem_is_word [.v (eP (pV 5)), .v (e2 opAdd (eP (pV 7)) (eC (.str [113])))]), .v (eC (.bl false))])))) (sBlk [
      (sRet (eC (.bl false)))]) sNx),
    (sFor (.nm 8) (iE (eP (pV 6))) (sBlk [
      (sIf (tNot (tE (eCall sem_law_is [.v (eCall sem_comes_before [.v (eP (pV 5)), .v (eP (pV 7)), .v (eP (pV 8))]), .v (e2 opLt (eCall sem_law_key [.v (eP (pV 5)), .v (eP (pV 7))]) (eCall sem_law_key [.v (eP (pV 5)), .v (eP (pV 8))]))]))) (sBlk [
        (sRet (eC (.bl false)))]) sNx)]))])),
  (sRet (eAnd (e2 opIs (eCall sem_is_word [.v (eP (pV 5)), .v (eC (.int 5))]) (eC (.bl false))) (e2 opIs (eCall sem_is_word [.v (eP (pV 5)), .v (eLst [(eP (pV 5))])]) (eC (.bl false)))))])
def sem_law : FSem := runDef 10 1 [] body_law
end
end FA
namespace FA
theorem idx_within {n : Nat} {i : Int} (h0 : 0 ≤ i) (h : i < n) : idx n i = some i.toNat := by
  unfold idx
  rw [if_pos h0, if_pos (by omega)]
theorem cell_ok (ns : List Int) (k : Int) (h : 0 ≤ k) : ∃ z, sem_law_cell [.fz (.scr ns), .fz (.int k)] = .ok (.fz (.int z)) [] := by
  by_cases hk : k < ns.length
  · have h2 : ns[k.toNat]? = some ns[k.toNat] := List.getElem?_eq_getElem (by omega)
    refine ⟨ns[k.toNat], ?_⟩
    simp [sem_law_cell, runDef, body_law_cell, sBlk, sSeq, sIf, tE, e2, e1P, eP, pV, pIx, opLt_ii, opLen_l, opLen_c, bi_ok, oo_s, fr_f, intO, boolO, tru_b, hk, sRet, itemO_l, itemO_f, itemD_l, itemD_c, idx_within h hk, h2, outsOf]
  · refine ⟨0, ?_⟩
    simp [sem_law_cell, runDef, body_law_cell, sBlk, sSeq, sIf, tE, e2, e1P, eP, pV, pIx, opLt_ii, opLen_l, opLen_c, bi_ok, oo_s, fr_f, intO, boolO, tru_b, hk, sRet, itemO_l, itemO_f, itemD_l, itemD_c, outsOf, sNx, eC]
def boxO (L : List Int) (n : Nat) : O := .lst [.fz (.lst (L.map .int)), .fz (.int n)]
theorem draw_ok (L : List Int) (n : Nat) (m : Int) (hm : 0 < m) : ∃ z, 0 ≤ z ∧ z < m ∧ sem_law_draw [boxO L n, .fz (.int m)] = .ok (.fz (.int z)) [some (boxO L (n + 1))] := by
  by_cases hk : n < L.length
  · have h2 : L[n]? = some L[n] := List.getElem?_eq_getElem hk
    refine ⟨L[n] % m, Int.emod_nonneg _ (by omega), Int.emod_lt_of_pos _ hm, ?_⟩
    have hk' : (n : Int) < (L.length : Int) := by omega
    have hi : idx L.length (n : Int) = some n := by rw [idx_within (by omega) hk']; rfl
    simp [boxO, sem_law_draw, runDef, body_law_draw, sBlk, sSeq, sIf, tE, e2, e1, e1P, eP, pV, pIx, opLt_ii, opLen_l, opLen_c, bi_ok, oo_s, fr_f, intO, boolO, tru_b, hk, sRet, itemO_l, itemO_f, itemD_l, itemD_c, sSet, asgn, sSetI, isAt, lV, atL, subO, unitS, atThen, modL, setI_l, setO, pC, idx_0, idx_1, opAdd_ii, eC, opMod_ii, opInt_i, hm, h2, hi, outsOf]
  · refine ⟨((n : Int) * 5 + 1) % m, Int.emod_nonneg _ (by omega), Int.emod_lt_of_pos _ hm, ?_⟩
    simp [boxO, sem_law_draw, runDef, body_law_draw, sBlk, sSeq, sIf, tE, e2, e1, e1P, eP, pV, pIx, opLt_ii, opLen_l, opLen_c, bi_ok, oo_s, fr_f, intO, boolO, tru_b, hk, sRet, itemO_l, itemO_f, itemD_l, itemD_c, sSet, asgn, sSetI, isAt, lV, atL, subO, unitS, atThen, modL, setI_l, setO, pC, idx_0, idx_1, opAdd_ii, eC, opMod_ii, opInt_i, hm, outsOf, sNx, opMul_r sm5]
theorem frs_fz : ∀ ds : List D, frs (ds.map .fz) = ds
  | [] => rfl
  | d :: r => by show O.fr (.fz d) :: frs (r.map .fz) = d :: r; rw [frs_fz r]; rfl
theorem rl_len (lo st : Int) : ∀ n : Nat, (rangeL lo st n).length = n
  | 0 => rfl
  | n + 1 => by simp [rangeL, rl_len (lo + st) st n]
theorem rl_get (lo st : Int) : ∀ (n i : Nat), (rangeL lo st n)[i]? = if i < n then some (.int (lo + st * i)) else none
  | 0, i => by simp [rangeL]
  | n + 1, 0 => by simp [rangeL]
  | n + 1, i + 1 => by
    simp only [rangeL, List.getElem?_cons_succ, Nat.add_lt_add_iff_right]
    rw [rl_get (lo + st) st n i]
    split
    · congr 2
      push_cast
      rw [Int.mul_add]
      omega
    · rfl
theorem rl_at {lo : Int} {n i : Nat} {d : D} (h : (rangeL lo 1 n)[i]? = some d) : i < n ∧ d = .int (lo + i) := by
  rw [rl_get] at h
  split at h
  · rename_i hi
    cases h
    exact ⟨hi, by rw [Int.one_mul]⟩
  · cases h
/-- a list of whole numbers, as a tree -/
def ilst (L : List Int) : O := .lst (L.map fun i => .fz (.int i))

theorem len_ilst (L : List Int) (x : Int) : (ilst L) = .lst (L.map fun i => .fz (.int i)) := rfl
theorem frs_ilst : ∀ L : List Int, frs (L.map fun i => .fz (.int i)) = L.map .int
  | [] => rfl
  | i :: r => by show O.fr (.fz (.int i)) :: frs (r.map _) = _; rw [frs_ilst r]; rfl
def rowE (ns : List Int) (L : List Int) (c d e : Option O) : Env := [some (.fz (.scr ns)), some (.fz (.int 0)), some (.fz (.int 12)), some (ilst L), c, d, e]
theorem app_row (ns L : List Int) (c d e : Option O) (x : Int) (ex : Ex) (h : ex (rowE ns L c d e) = .ok (.fz (.int x)) (rowE ns L c d e)) (hl : L.length < line) : sApp (lV 3) ex (rowE ns L c d e) = .ok .nx (rowE ns (L ++ [x]) c d e) := by
  simp [sApp, lstAt, atThen, lV, h, bi_ok, unitS, atL, rowE, ilst, subO, modL, appO_l, hl, setO]
  have h' := h
  simp [rowE, ilst] at h'
  rw [h']
  simp [bi_ok, subO, appO_l, hl, setO]
theorem body1 (ns L : List Int) (c e : Option O) (y : Int) (hl : L.length < line) : ∃ L' d', L'.length ≤ L.length + 1 ∧ (sIf (tE (e2 opGt (eP (pV 5)) (eC (.int 0)))) (sBlk [
          (sApp (lV 3) (e2 opMod (e1 opInt (eP (pV 5))) (eC (.int 840)))),
          (sSet (.nm 5) (eFz (e2 opFDiv (eP (pV 5)) (eC (.int 840)))))]) sNx) (rowE ns L c (some (.fz (.int y))) e) = .ok .nx (rowE ns L' c (some (.fz (.int d'))) e) := by
  by_cases h : 0 < y
  · refine ⟨L ++ [y % 840], y / 840, by simp, ?_⟩
    have h1 := app_row ns L c (some (.fz (.int y))) e (y % 840) (e2 opMod (e1 opInt (eP (pV 5))) (eC (.int 840))) (by simp [e2, e1, eP, pV, rowE, eC, bi_ok, oo_s, fr_f, opInt_i, opMod_ii, intO]) hl
    have ht : tE (e2 opGt (eP (pV 5)) (eC (.int 0))) (rowE ns L c (some (.fz (.int y))) e) = .ok true (rowE ns L c (some (.fz (.int y))) e) := by
      simp [tE, e2, eP, pV, rowE, eC, bi_ok, oo_s, fr_f, opGt_ii, boolO, tru_b, h]
    simp only [sIf, ht, bi_ok, if_true, sBlk, sSeq, h1]
    simp [sSet, eFz, e2, eP, pV, rowE, eC, bi_ok, oo_s, fr_f, opFDiv_ii, intO, asgn]
  · refine ⟨L, y, by simp, ?_⟩
    simp [sIf, tE, e2, eP, pV, rowE, eC, bi_ok, oo_s, fr_f, opGt_ii, boolO, tru_b, h, sNx]
theorem body2 (ns L : List Int) (j t : Int) (y : Int) (hl : L.length < line) : ∃ L' d', L'.length ≤ L.length + 1 ∧ (sBlk [
        (sSet (.nm 5) (eFz (e2 opMod (e1 opInt (e2 opAdd (e2 opAdd (e2 opMulI (eP (pV 5)) (eC (.int 69069))) (e2 opMulI (eC (.int 104729)) (e2 opAdd (eP (pV 4)) (eP (pV 6))))) (eC (.int 1)))) (eC (.int 4294967291))))),
        (sApp (lV 3) (e2 opMod (e1 opInt (e2 opFDiv (eP (pV 5)) (eC (.int 5003)))) (eC (.int 840))))]) (rowE ns L (some (.fz (.int j))) (some (.fz (.int y))) (some (.fz (.int t)))) = .ok .nx (rowE ns L' (some (.fz (.int j))) (some (.fz (.int d'))) (some (.fz (.int t)))) := by
  refine ⟨L ++ [((y * 69069 + 104729 * (j + t) + 1) % 4294967291) / 5003 % 840], (y * 69069 + 104729 * (j + t) + 1) % 4294967291, by simp, ?_⟩
  have h0 : sSet (.nm 5) (eFz (e2 opMod (e1 opInt (e2 opAdd (e2 opAdd (e2 opMulI (eP (pV 5)) (eC (.int 69069))) (e2 opMulI (eC (.int 104729)) (e2 opAdd (eP (pV 4)) (eP (pV 6))))) (eC (.int 1)))) (eC (.int 4294967291)))) (rowE ns L (some (.fz (.int j))) (some (.fz (.int y))) (some (.fz (.int t)))) = .ok .nx (rowE ns L (some (.fz (.int j))) (some (.fz (.int ((y * 69069 + 104729 * (j + t) + 1) % 4294967291)))) (some (.fz (.int t)))) := by
    simp [sSet, eFz, e2, e1, eP, pV, rowE, eC, bi_ok, oo_s, fr_f, opMul_r sm69069, opMul_l sm104729, opAdd_ii, opInt_i, opMod_ii, intO, asgn]
  have h1 := app_row ns L (some (.fz (.int j))) (some (.fz (.int ((y * 69069 + 104729 * (j + t) + 1) % 4294967291)))) (some (.fz (.int t))) (((y * 69069 + 104729 * (j + t) + 1) % 4294967291) / 5003 % 840) (e2 opMod (e1 opInt (e2 opFDiv (eP (pV 5)) (eC (.int 5003)))) (eC (.int 840))) (by simp [e2, e1, eP, pV, rowE, eC, bi_ok, oo_s, fr_f, opInt_i, opMod_ii, opFDiv_ii, intO]) hl
  simp only [sBlk, sSeq, h0, bi_ok, h1]
theorem pow18 : opPow (.int 10) (.int 18) = some (intO 1000000000000000000) := by rfl
theorem r60 (ρ : Env) : iRange1 (eC (.int 60)) ρ = .ok (rangeL 0 1 60) ρ := by rfl
theorem r10 (ρ : Env) : iRange1 (eC (.int 10)) ρ = .ok (rangeL 0 1 10) ρ := by rfl
theorem row_turn (ns L : List Int) (i : Nat) (d0 e : Option O) (hi : i < 12) (hL : L.length ≤ 60 * i) (y0 : Int) : Ok ((sIf (tE (e2 opGt (eP (pV 5)) (e2 opPow (eC (.int 10)) (eC (.int 18))))) (sBlk [
      (sFor (.nm 6) (iRange1 (eC (.int 60))) (sBlk [
        (sIf (tE (e2 opGt (eP (pV 5)) (eC (.int 0)))) (sBlk [
          (sApp (lV 3) (e2 opMod (e1 opInt (eP (pV 5))) (eC (.int 840)))),
          (sSet (.nm 5) (eFz (e2 opFDiv (eP (pV 5)) (eC (.int 840)))))]) sNx)]))]) (sBlk [
      (sFor (.nm 6) (iRange1 (eC (.int 10))) (sBlk [
        (sSet (.nm 5) (eFz (e2 opMod (e1 opInt (e2 opAdd (e2 opAdd (e2 opMulI (eP (pV 5)) (eC (.int 69069))) (e2 opMulI (eC (.int 104729)) (e2 opAdd (eP (pV 4)) (eP (pV 6))))) (eC (.int 1)))) (eC (.int 4294967291))))),
        (sApp (lV 3) (e2 opMod (e1 opInt (e2 opFDiv (eP (pV 5)) (eC (.int 5003)))) (eC (.int 840))))]))])) (rowE ns L (some (.fz (.int (0 + (i : Int))))) (some (.fz (.int y0))) e)) fun f ρ => f = .nx ∧ ∃ L c d e, L.length ≤ 60 * (i + 1) ∧ ρ = rowE ns L c d e := by
  have hbig : ∀ n : Nat, n ≤ 60 * i + 60 → n < line := fun n h => by unfold line; omega
  have ht : tE (e2 opGt (eP (pV 5)) (e2 opPow (eC (.int 10)) (eC (.int 18)))) (rowE ns L (some (.fz (.int (0 + (i : Int))))) (some (.fz (.int y0))) e) = .ok (decide (1000000000000000000 < y0)) (rowE ns L (some (.fz (.int (0 + (i : Int))))) (some (.fz (.int y0))) e) := by
    simp [tE, e2, eP, pV, rowE, eC, bi_ok, oo_s, fr_f, pow18, opGt_ii, boolO, tru_b, intO]
  simp only [sIf, ht, bi_ok]
  split
  · simp only [sBlk, sFor, r60, r10, bi_ok]
    refine Ok.mono (P := fun f ρ => f = .nx ∧ ∃ L c d e, L.length ≤ 60 * i + 60 ∧ ρ = rowE ns L c d e) (ok_for (fun m ρ => ∃ L' y' e', L'.length ≤ 60 * i + m ∧ ρ = rowE ns L' (some (.fz (.int (0 + (i : Int))))) (some (.fz (.int y'))) e') 0 ⟨L, y0, e, by simpa using hL, rfl⟩ ?_ ?_) fun f ρ ⟨h1, L, c, d, e, h2, h3⟩ => ⟨h1, L, c, d, e, by omega, h3⟩
    · rintro m d ρ hm ⟨L', y', e', hL', rfl⟩
      obtain ⟨hm', rfl⟩ := rl_at hm
      obtain ⟨L2, y2, hL2, hb⟩ := body1 ns L' (some (.fz (.int (0 + (i : Int))))) (some (.fz (.int (0 + (m : Int))))) y' (hbig _ (by  omega))
      refine ⟨rowE ns L' (some (.fz (.int (0 + (i : Int))))) (some (.fz (.int y'))) (some (.fz (.int (0 + (m : Int))))), by simp [asgn, rowE], ?_⟩
      simp only [sBlk] at hb
      rw [hb]
      exact ⟨L2, y2, _, by omega, rfl⟩
    · rintro ρ ⟨L', y', e', hL', rfl⟩
      rw [rl_len] at hL'
      exact ⟨rfl, L', _, _, _, by simpa using hL', rfl⟩
  · simp only [sBlk, sFor, r60, r10, bi_ok]
    refine Ok.mono (P := fun f ρ => f = .nx ∧ ∃ L c d e, L.length ≤ 60 * i + 10 ∧ ρ = rowE ns L c d e) (ok_for (fun m ρ => ∃ L' y' e', L'.length ≤ 60 * i + m ∧ ρ = rowE ns L' (some (.fz (.int (0 + (i : Int))))) (some (.fz (.int y'))) e') 0 ⟨L, y0, e, by simpa using hL, rfl⟩ ?_ ?_) fun f ρ ⟨h1, L, c, d, e, h2, h3⟩ => ⟨h1, L, c, d, e, by omega, h3⟩
    · rintro m d ρ hm ⟨L', y', e', hL', rfl⟩
      obtain ⟨hm', rfl⟩ := rl_at hm
      obtain ⟨L2, y2, hL2, hb⟩ := body2 ns L' (0 + (i : Int)) (0 + (m : Int)) y' (hbig _ (by  omega))
      refine ⟨rowE ns L' (some (.fz (.int (0 + (i : Int))))) (some (.fz (.int y'))) (some (.fz (.int (0 + (m : Int))))), by simp [asgn, rowE], ?_⟩
      simp only [sBlk] at hb
      rw [hb]
      exact ⟨L2, y2, _, by omega, rfl⟩
    · rintro ρ ⟨L', y', e', hL', rfl⟩
      rw [rl_len] at hL'
      exact ⟨rfl, L', _, _, _, by simpa using hL', rfl⟩
theorem row_ok (ns : List Int) : ∃ L : List Int, sem_law_row [.fz (.scr ns), .fz (.int 0), .fz (.int 12)] = .ok (.fz (.lst (L.map .int))) [] := by
  have h : Ok (sem_law_row [.fz (.scr ns), .fz (.int 0), .fz (.int 12)]) fun o ρ => ∃ L : List Int, o = .fz (.lst (L.map .int)) ∧ ρ = [] := by
    refine ok_def rfl ?_
    have e0 : sSet (.nm 3) (eLst []) [some (.fz (.scr ns)), some (.fz (.int 0)), some (.fz (.int 12)), none, none, none, none] = .ok .nx (rowE ns [] none none none) := by
      simp [sSet, eLst, eAll, bi_ok, asgn, rowE, ilst]
    simp only [body_law_row, sBlk, sSeq, List.map, List.replicate, List.cons_append, List.nil_append, Nat.reduceSub, e0, bi_ok]
    rw [ok_bind]
    have ei : iRange (eP (pV 1)) (eP (pV 2)) (rowE ns [] none none none) = .ok (rangeL 0 1 12) (rowE ns [] none none none) := by
      simp [iRange, eP, pV, rowE, bi_ok, small62]
    unfold sFor
    rw [ei, bi_ok]
    refine ok_for (fun i ρ => ∃ L c d e, L.length ≤ 60 * i ∧ ρ = rowE ns L c d e) 0 ⟨[], none, none, none, by simp, rfl⟩ ?_ ?_
    · rintro i d ρ hi ⟨L, c, d0, e, hL, rfl⟩
      obtain ⟨hi', rfl⟩ := rl_at hi
      obtain ⟨z, hz⟩ := cell_ok ns (0 + (i : Int)) (by omega)
      refine ⟨rowE ns L (some (.fz (.int (0 + (i : Int))))) d0 e, by simp [asgn, rowE], ?_⟩
      have q1 : sSet (.nm 5) (eFz (eCall sem_law_cell [.v (eP (pV 0)), .v (eP (pV 4))])) (rowE ns L (some (.fz (.int (0 + (i : Int))))) d0 e) = .ok .nx (rowE ns L (some (.fz (.int (0 + (i : Int))))) (some (.fz (.int z))) e) := by
        have hz' := hz
        simp only [Int.zero_add] at hz'
        simp [sSet, eFz, eCall, args, fillA, backA, hide, ios, eP, pV, rowE, bi_ok, fr_f, hz', asgn]
      have q2 : sSet (.nm 5) (eFz (e2 opAdd (e1 opAbs (e2 opMulI (eC (.int 2)) (eP (pV 5)))) (e1 opInt (e2 opLt (eP (pV 5)) (eC (.int 0)))))) (rowE ns L (some (.fz (.int (0 + (i : Int))))) (some (.fz (.int z))) e) = .ok .nx (rowE ns L (some (.fz (.int (0 + (i : Int))))) (some (.fz (.int ((if 2 * z < 0 then -(2 * z) else 2 * z) + (if decide (z < 0) = true then 1 else 0))))) e) := by
        simp only [sSet, eFz, e2, e1, eP, pV, rowE, eC, bi_ok, oo_s, fr_f, opMul_l sm2, opAbs_i, opLt_ii, opInt_b, opAdd_ii, intO, boolO, asgn, List.getElem?_cons_succ, List.getElem?_cons_zero, List.length_cons, List.length_nil, List.set]
        simp
      simp only [sBlk, sSeq, q1, q2, bi_ok]
      have h := row_turn ns L i d0 e hi' (by simpa using hL) ((if 2 * z < 0 then -(2 * z) else 2 * z) + (if decide (z < 0) = true then 1 else 0))
      simp only [sBlk] at h
      refine h.mono fun f ρ ⟨h1, L2, c2, d2, e2, h2, h3⟩ => ?_
      subst h1
      exact ⟨L2, c2, d2, e2, by simpa using h2, h3⟩
    · rintro ρ ⟨L, c, d, e, hL, rfl⟩
      simp [sRet, eFrz, rowE, bi_ok, ok_ok, outsOf, ilst, O.fr, frs_ilst]
      exact ⟨L, rfl⟩
  obtain ⟨o, ρ, e, L, rfl, rfl⟩ := ok_eq h
  exact ⟨L, e⟩

/-! ### the alphabet -/
def LET : List Nat := [97, 98, 99, 100, 101, 102, 103, 104, 105, 106, 107, 108, 109, 110, 111, 112, 113, 114, 115, 116, 117, 118, 119, 120, 121, 122]
theorem hasSub1 (c : Nat) : ∀ s : List Nat, hasSub [c] s = s.contains c
  | [] => rfl
  | d :: r => by
    unfold hasSub
    rw [hasSub1 c r]
    simp only [prefixB, List.contains_cons, Bool.and_true]
    try rfl
theorem in_s1 (c : Nat) (s : List Nat) : opIn (.str [c]) (.str s) = some (boolO (s.contains c)) := by
  show (some (hasSub [c] s)).map boolO = _
  rw [hasSub1]; rfl
theorem notin_s1 (c : Nat) (s : List Nat) : opNotIn (.str [c]) (.str s) = some (boolO (!s.contains c)) := by
  show (some (hasSub [c] s)).map (fun x => boolO (!x)) = _
  rw [hasSub1]; rfl
theorem count_s1 (c : Nat) (s : List Nat) : opCount (.str s) (.str [c]) = some (intO (s.countP fun d => d == c)) := rfl
theorem eq_ii (a b : Int) : opEq (.int a) (.int b) = some (boolO (a == b)) := by
  unfold opEq eqOk flatD eqv
  simp
theorem eq_bb (a b : Bool) : opEq (.bl a) (.bl b) = some (boolO (a == b)) := by
  unfold opEq eqOk flatD eqv
  simp
theorem bools_map {α : Type} (f : α → Bool) : ∀ l : List α, boolsOf (l.map fun c => .bl (f c)) = some (l.map f)
  | [] => rfl
  | a :: r => by show (boolsOf (r.map _)).map _ = _; rw [bools_map f r]; rfl
def alphaB (t : List Nat) : Bool := decide (1 ≤ t.length) && decide (t.length ≤ 5) && t.all fun c => LET.contains c && (t.countP fun d => d == c) == 1
theorem frs_bl {α : Type} (f : α → Bool) : ∀ l : List α, frs (l.map fun c => .fz (.bl (f c))) = l.map fun c => .bl (f c)
  | [] => rfl
  | a :: r => by show O.fr (.fz (.bl (f a))) :: frs (r.map _) = _; rw [frs_bl f r]; rfl
theorem inst_str (s : List Nat) : opIsInst "str" (.str s) = some (boolO true) := rfl
theorem is_alphabet_str (t : List Nat) (ht : t.length ≤ line) : sem_is_alphabet [.fz (.str t)] = .ok (boolO (alphaB t)) [] := by
  have hc : eComp [1] (.nm 1) (iE (eP (pV 0))) tT (eAnd (e2P opIn (eP (pV 1)) (pC (.str LET))) (e2 opEq (eM isS opCount (eP (pV 0)) (eP (pV 1))) (eC (.int 1)))) [some (.fz (.str t)), none] = .ok (.lst ((t.map fun c => D.str [c]).map fun d => match d with
      | .str [c] => O.fz (.bl (LET.contains c && (t.countP fun d => d == c) == 1))
      | _ => .fz .non)) [some (.fz (.str t)), none] := by
    refine eComp_map _ rfl (by simp [iE, eP, pV, bi_ok, fr_f, itemsD, oo_s]) (by simpa using ht) ?_
    intro d hd
    obtain ⟨c, _, rfl⟩ := List.mem_map.mp hd
    have h1 : e2P opIn (eP (pV 1)) (pC (.str LET)) [some (.fz (.str t)), some (.fz (.str [c]))] = .ok (boolO (LET.contains c)) [some (.fz (.str t)), some (.fz (.str [c]))] := by
      simp only [e2P, eP, pV, pC, bi_ok, fr_f, in_s1, oo_s, List.getElem?_cons_succ, List.getElem?_cons_zero]
    have h2 : e2 opEq (eM isS opCount (eP (pV 0)) (eP (pV 1))) (eC (.int 1)) [some (.fz (.str t)), some (.fz (.str [c]))] = .ok (boolO ((t.countP fun d => d == c) == 1)) [some (.fz (.str t)), some (.fz (.str [c]))] := by
      simp only [e2, eM, eP, pV, eC, bi_ok, fr_f, isS, if_true, count_s1, oo_s, List.getElem?_cons_succ, List.getElem?_cons_zero, intO, eq_ii]
      congr 2
      rw [Bool.eq_iff_iff]; simp; omega
    simp only [List.set, eAnd, h1, bi_ok, boolO]
    cases hh : LET.contains c
    · simp [hh, boolO]
    · simp [hh, h2, boolO]
  have hr : sRet (e1 opAll (eComp [1] (.nm 1) (iE (eP (pV 0))) tT (eAnd (e2P opIn (eP (pV 1)) (pC (.str LET))) (e2 opEq (eM isS opCount (eP (pV 0)) (eP (pV 1))) (eC (.int 1)))))) [some (.fz (.str t)), none] = .ok (.ret (boolO (t.all fun c => LET.contains c && (t.countP fun d => d == c) == 1))) [some (.fz (.str t)), none] := by
    simp only [sRet, e1, hc, bi_ok, O.fr, List.map_map]
    rw [show ((fun d => match d with
      | .str [c] => O.fz (.bl (LET.contains c && (t.countP fun d => d == c) == 1))
      | _ => .fz .non) ∘ fun c => D.str [c]) = fun c => O.fz (.bl (LET.contains c && (t.countP fun d => d == c) == 1)) from rfl, frs_bl]
    simp only [opAll, bools_map, Option.map, oo_s, bi_ok, List.all_map]
    rfl
  have hb : body_is_alphabet [some (.fz (.str t)), none] = .ok (.ret (boolO (alphaB t))) [some (.fz (.str t)), none] := by
    simp only [body_is_alphabet, sBlk, sSeq]
    rw [show ([97, 98, 99, 100, 101, 102, 103, 104, 105, 106, 107, 108, 109, 110, 111, 112, 113, 114, 115, 116, 117, 118, 119, 120, 121, 122] : List Nat) = LET from rfl]
    have htest : tOr (tNot (tE (e1 (opIsInst "str") (eP (pV 0))))) (tNot (tE (eChain opLe opLe (eC (.int 1)) (e1P opLen (pV 0)) (eC (.int 5))))) [some (.fz (.str t)), none] = .ok (!(decide (1 ≤ t.length) && decide (t.length ≤ 5))) [some (.fz (.str t)), none] := by
      have a2 : decide ((t.length : Int) ≤ 5) = decide (t.length ≤ 5) := by rw [decide_eq_decide]; omega
      by_cases h1 : 1 ≤ t.length
      · have a1 : decide ((1 : Int) ≤ (t.length : Int)) = true := by rw [decide_eq_true_iff]; omega
        simp only [tOr, tNot, tE, e1, eP, pV, bi_ok, oo_s, fr_f, inst_str, boolO, tru_b, eChain, eC, e1P, opLen_s t ht, opLe_ii, intO, a1, a2, List.getElem?_cons_zero, h1, decide_true, Bool.true_and, Bool.not_true, Bool.false_eq_true, if_false]
      · have a1 : decide ((1 : Int) ≤ (t.length : Int)) = false := by rw [decide_eq_false_iff_not]; omega
        simp only [tOr, tNot, tE, e1, eP, pV, bi_ok, oo_s, fr_f, inst_str, boolO, tru_b, eChain, eC, e1P, opLen_s t ht, opLe_ii, intO, a1, a2, List.getElem?_cons_zero, h1, decide_false, Bool.false_and, Bool.not_true, Bool.false_eq_true, if_false]
    simp only [sIf, htest, bi_ok]
    unfold alphaB
    cases hh : (decide (1 ≤ t.length) && decide (t.length ≤ 5))
    · simp [sRet, eC, bi_ok, boolO]
    · simp [sNx, bi_ok, hr]
  exact def_ret rfl hb rfl
theorem inst_bool (s : Bool) : opIsInst "bool" (.bl s) = some (boolO true) := rfl
theorem law_is_bb (a b : Bool) : sem_law_is [.fz (.bl a), .fz (.bl b)] = .ok (boolO (a == b)) [] := by
  refine def_ret (ρ := [some (.fz (.bl a)), some (.fz (.bl b))]) rfl ?_ rfl
  simp only [body_law_is, sBlk, sRet, eAnd, e1, e2, eP, pV, List.map, List.replicate, List.cons_append, List.nil_append, Nat.reduceSub, List.append_nil, List.getElem?_cons_zero, List.getElem?_cons_succ, bi_ok, fr_f, inst_bool, oo_s, boolO, eq_bb]
/-- what is no text is neither -/
theorem is_alphabet_no (d : D) (h : opIsInst "str" d = some (boolO false)) : sem_is_alphabet [.fz d] = .ok (boolO false) [] := by
  refine def_ret (ρ := [some (.fz d), none]) rfl ?_ rfl
  simp [body_is_alphabet, sBlk, sSeq, sIf, tOr, tNot, tE, e1, eP, pV, bi_ok, oo_s, fr_f, h, boolO, tru_b, sRet, eC]
theorem law_good_no (d : D) (h : opIsInst "str" d = some (boolO false)) : sem_law_good [.fz d] = .ok (boolO false) [] := by
  refine def_ret (ρ := [some (.fz d), none]) rfl ?_ rfl
  simp [body_law_good, sBlk, sSeq, sIf, tOr, tNot, tE, e1, eP, pV, bi_ok, oo_s, fr_f, h, boolO, tru_b, sRet, eC]
theorem take_in {t : List Nat} {k : Nat} (hk : k < t.length) (h : t[k] ∈ t.take k) : 2 ≤ t.countP fun d => d == t[k] := by
  have e : t = t.take k ++ t[k] :: t.drop (k + 1) := by rw [← List.drop_eq_getElem_cons hk, List.take_append_drop]
  have : t.countP (fun d => d == t[k]) = (t.take k ++ t[k] :: t.drop (k + 1)).countP (fun d => d == t[k]) := by rw [← e]
  rw [this, List.countP_append, List.countP_cons]
  have : 0 < (t.take k).countP fun d => d == t[k] := List.countP_pos_iff.mpr ⟨t[k], h, by simp⟩
  simp
  omega
theorem once {t : List Nat} (h : ∀ (k : Nat) (hk : k < t.length), ¬ t[k] ∈ t.take k) : t.Nodup := by
  rw [List.nodup_iff_pairwise_ne, List.pairwise_iff_getElem]
  intro i j hi hj hij e
  refine h j hj ?_
  rw [← e]
  have : i < (t.take j).length := by simp; omega
  have e2 : (t.take j)[i] = t[i] := by simp
  rw [← e2]
  exact List.getElem_mem this
theorem alphaB_of {t : List Nat} (h1 : 1 ≤ t.length) (h2 : t.length ≤ 5) (h : ∀ (k : Nat) (hk : k < t.length), LET.contains t[k] = true ∧ ¬ t[k] ∈ t.take k) : alphaB t = true := by
  have nd := once fun k hk => (h k hk).2
  unfold alphaB
  simp only [Bool.and_eq_true, decide_eq_true_eq, List.all_eq_true]
  refine ⟨⟨h1, h2⟩, fun c hc => ?_⟩
  obtain ⟨k, hk, rfl⟩ := List.getElem_of_mem hc
  refine ⟨(h k hk).1, ?_⟩
  have : t.count t[k] = 1 := by rw [nd.count, if_pos hc]
  simpa [List.count] using this
theorem alphaB_no {t : List Nat} {k : Nat} (hk : k < t.length) (h : LET.contains t[k] = false ∨ t[k] ∈ t.take k) : alphaB t = false := by
  rw [Bool.eq_false_iff]
  intro z
  unfold alphaB at z
  simp only [Bool.and_eq_true, decide_eq_true_eq, List.all_eq_true] at z
  have := z.2 t[k] (List.getElem_mem hk)
  rcases h with h | h
  · rw [h] at this; cases this.1
  · have h2 := take_in hk h
    have := this.2
    simp at this
    omega
theorem slice_to (t : List Nat) (k : Nat) (ht : t.length ≤ line) (hk : k ≤ t.length) : sliceD (.str t) none (some (k : Int)) = some (.fz (.str (t.take k))) := by
  show (if t.length ≤ line then some (O.fz (.str (sliceL t none (some (k : Int))))) else none) = _
  rw [if_pos ht]
  unfold sliceL clampI
  simp [Nat.min_eq_left hk]
theorem good_test (t : List Nat) (k : Nat) (ht : t.length ≤ line) (hk : k < t.length) : tOr (tE (e2 opNotIn (eP (pIx (pV 0) (pV 1))) (eC (.str LET)))) (tE (e2 opIn (eP (pIx (pV 0) (pV 1))) (eSl (eP (pV 0)) none (some (eP (pV 1)))))) [some (.fz (.str t)), some (.fz (.int (k : Int)))] = .ok (!LET.contains t[k] || (t.take k).contains t[k]) [some (.fz (.str t)), some (.fz (.int (k : Int)))] := by
  have hp : eP (pIx (pV 0) (pV 1)) [some (.fz (.str t)), some (.fz (.int (k : Int)))] = .ok (.fz (.str [t[k]])) [some (.fz (.str t)), some (.fz (.int (k : Int)))] := by
    simp [eP, pIx, pV, itemO_f, fr_f, itemD_s t k ht, idx_nat t.length k hk, List.getElem?_eq_getElem hk]
  have hs : eSl (eP (pV 0)) none (some (eP (pV 1))) [some (.fz (.str t)), some (.fz (.int (k : Int)))] = .ok (.fz (.str (t.take k))) [some (.fz (.str t)), some (.fz (.int (k : Int)))] := by
    simp only [eSl, eOpt, eP, pV, bi_ok, fr_f, List.getElem?_cons_zero, List.getElem?_cons_succ, slice_to t k ht (by omega), oo_s]
  simp only [tOr, tE, e2, hp, hs, eC, bi_ok, fr_f, notin_s1, in_s1, oo_s, boolO, tru_b]
  cases LET.contains t[k] <;> simp
theorem law_good_str (t : List Nat) (ht : t.length ≤ line) : sem_law_good [.fz (.str t)] = .ok (boolO (alphaB t)) [] := by
  have h : Ok (sem_law_good [.fz (.str t)]) fun o ρ => o = boolO (alphaB t) ∧ ρ = [] := by
    refine ok_def rfl ?_
    simp only [body_law_good, sBlk, List.map, List.replicate, List.cons_append, List.nil_append, Nat.reduceSub, List.append_nil]
    rw [show ([97, 98, 99, 100, 101, 102, 103, 104, 105, 106, 107, 108, 109, 110, 111, 112, 113, 114, 115, 116, 117, 118, 119, 120, 121, 122] : List Nat) = LET from rfl]
    have htest : tOr (tNot (tE (e1 (opIsInst "str") (eP (pV 0))))) (tOr (tE (e2 opLt (e1P opLen (pV 0)) (eC (.int 1)))) (tE (e2 opGt (e1P opLen (pV 0)) (eC (.int 5))))) [some (.fz (.str t)), none] = .ok (decide (t.length < 1) || decide (5 < t.length)) [some (.fz (.str t)), none] := by
      have a1 : decide ((t.length : Int) < 1) = decide (t.length < 1) := by rw [decide_eq_decide]; omega
      have a2 : decide ((5 : Int) < (t.length : Int)) = decide (5 < t.length) := by rw [decide_eq_decide]; omega
      simp only [tOr, tNot, tE, e1, e2, eP, pV, bi_ok, oo_s, fr_f, inst_str, boolO, tru_b, eC, e1P, opLen_s t ht, opLt_ii, opGt_ii, intO, a1, a2, List.getElem?_cons_zero, Bool.not_true, Bool.false_eq_true, if_false]
      cases decide (t.length < 1) <;> simp
    simp only [sSeq, ok_bind]
    have hif : ∀ (x y : Stx), sIf (tOr (tNot (tE (e1 (opIsInst "str") (eP (pV 0))))) (tOr (tE (e2 opLt (e1P opLen (pV 0)) (eC (.int 1)))) (tE (e2 opGt (e1P opLen (pV 0)) (eC (.int 5)))))) x y [some (.fz (.str t)), none] = if (decide (t.length < 1) || decide (5 < t.length)) = true then x [some (.fz (.str t)), none] else y [some (.fz (.str t)), none] := fun x y => by
      simp only [sIf, htest, bi_ok]
    rw [hif]
    by_cases hlen : (decide (t.length < 1) || decide (5 < t.length)) = true
    · rw [if_pos hlen]
      have : alphaB t = false := by
        rw [Bool.eq_false_iff]
        intro z
        unfold alphaB at z
        simp only [Bool.and_eq_true, decide_eq_true_eq] at z
        simp only [Bool.or_eq_true, decide_eq_true_eq] at hlen
        omega
      rw [this]
      simp [sRet, eC, bi_ok, ok_ok, boolO, outsOf]
    · rw [if_neg hlen]
      simp only [Bool.or_eq_true, decide_eq_true_eq] at hlen
      simp only [sNx, ok_ok]
      rw [ok_bind]
      have hr : iRange1 (e1P opLen (pV 0)) [some (.fz (.str t)), none] = .ok (rangeL 0 1 t.length) [some (.fz (.str t)), none] := by
        have : small62 (t.length : Int) = true := by unfold small62; unfold line at ht; simp; omega
        simp only [iRange1, e1P, pV, fr_f, opLen_s t ht, oo_s, bi_ok, intO, this, List.getElem?_cons_zero, if_true, Int.toNat_natCast]
      unfold sFor
      rw [hr, bi_ok]
      refine ok_for (fun k ρ => (∃ x, ρ = [some (.fz (.str t)), x]) ∧ ∀ (j : Nat) (hj : j < t.length), j < k → LET.contains t[j] = true ∧ ¬ t[j] ∈ t.take j) 0 ⟨⟨none, rfl⟩, fun j hj z => by omega⟩ ?_ ?_
      · rintro k d ρ hk ⟨⟨x, rfl⟩, hj⟩
        obtain ⟨hk', rfl⟩ := rl_at hk
        rw [Int.zero_add]
        refine ⟨[some (.fz (.str t)), some (.fz (.int (k : Int)))], by simp [asgn], ?_⟩
        have hg := good_test t k ht hk'
        simp only [sIf, hg, bi_ok]
        cases hc : (!LET.contains t[k] || (t.take k).contains t[k])
        · simp only [Bool.false_eq_true, if_false, sNx, ok_ok]
          refine ⟨⟨_, rfl⟩, fun j hjl hjk => ?_⟩
          by_cases e : j = k
          · subst e
            simp at hc
            refine ⟨by simpa using hc.1, hc.2⟩
          · exact hj j hjl (by omega)
        · have : alphaB t = false := alphaB_no hk' (by
            rcases (Bool.or_eq_true _ _).mp hc with z | z
            · left; simpa using z
            · right; simpa using z)
          simp [sRet, eC, bi_ok, ok_ok, boolO, outsOf, this]
      · rintro ρ ⟨⟨x, rfl⟩, hj⟩
        rw [rl_len] at hj
        have : alphaB t = true := alphaB_of (by omega) (by omega) fun k hk => hj k hk (by omega)
        simp [sRet, eC, bi_ok, ok_ok, boolO, outsOf, this]
  obtain ⟨o, ρ, e, rfl, rfl⟩ := ok_eq h
  exact e

/-! ### words -/
theorem is_word_str (al t : List Nat) (ht : t.length ≤ line) : sem_is_word [.fz (.str al), .fz (.str t)] = .ok (boolO (t.all fun c => al.contains c)) [] := by
  have hc : eComp [2] (.nm 2) (iE (eP (pV 1))) tT (e2P opIn (eP (pV 2)) (pV 0)) [some (.fz (.str al)), some (.fz (.str t)), none] = .ok (.lst ((t.map fun c => D.str [c]).map fun d => match d with
      | .str [c] => O.fz (.bl (al.contains c))
      | _ => .fz .non)) [some (.fz (.str al)), some (.fz (.str t)), none] := by
    refine eComp_map _ rfl (by simp [iE, eP, pV, bi_ok, fr_f, itemsD, oo_s]) (by simpa using ht) ?_
    intro d hd
    obtain ⟨c, _, rfl⟩ := List.mem_map.mp hd
    simp only [List.set, e2P, eP, pV, bi_ok, fr_f, in_s1, oo_s, List.getElem?_cons_succ, List.getElem?_cons_zero, boolO]
  refine def_ret (ρ := [some (.fz (.str al)), some (.fz (.str t)), none]) rfl ?_ rfl
  have h1 : e1 (opIsInst "str") (eP (pV 1)) [some (.fz (.str al)), some (.fz (.str t)), none] = .ok (.fz (.bl true)) [some (.fz (.str al)), some (.fz (.str t)), none] := by
    simp only [e1, eP, pV, bi_ok, fr_f, inst_str, oo_s, List.getElem?_cons_succ, List.getElem?_cons_zero, boolO]
  simp only [body_is_word, sBlk, sRet, List.map, List.replicate, List.cons_append, List.nil_append, Nat.reduceSub, List.append_nil, eAnd, h1, bi_ok]
  simp only [e1, hc, bi_ok, O.fr, List.map_map]
  rw [show ((fun d => match d with
      | .str [c] => O.fz (.bl (al.contains c))
      | _ => .fz .non) ∘ fun c => D.str [c]) = fun c => O.fz (.bl (al.contains c)) from rfl, frs_bl]
  simp only [opAll, bools_map, Option.map, oo_s, bi_ok, List.all_map]
  rfl
theorem is_word_no (al : List Nat) (d : D) (h : opIsInst "str" d = some (boolO false)) : sem_is_word [.fz (.str al), .fz d] = .ok (boolO false) [] := by
  refine def_ret (ρ := [some (.fz (.str al)), some (.fz d), none]) rfl ?_ rfl
  simp [body_is_word, sBlk, sRet, eAnd, e1, eP, pV, bi_ok, oo_s, fr_f, h, boolO]
def ix (al : List Nat) (c : Nat) : Int := ((findN al c).getD 0 : Nat)
theorem findN_some {c : Nat} : ∀ {al : List Nat}, al.contains c = true → ∃ k, findN al c = some k
  | [], h => by simp at h
  | d :: r, h => by
    unfold findN
    by_cases e : d = c
    · exact ⟨0, by rw [if_pos e]⟩
    · rw [if_neg e]
      have : r.contains c = true := by
        simp only [List.contains_cons, Bool.or_eq_true, beq_iff_eq] at h
        exact h.resolve_left fun z => e z.symm
      obtain ⟨k, hk⟩ := findN_some this
      exact ⟨k + 1, by rw [hk]; rfl⟩
def cds (al t : List Nat) : List Int := t.map (ix al)
theorem comp_cds (al t : List Nat) (ht : t.length ≤ line) (hw : t.all (fun c => al.contains c) = true) : eComp [2] (.nm 2) (iE (eP (pV 1))) tT (eM isSL opIndex (eP (pV 0)) (eP (pV 2))) [some (.fz (.str al)), some (.fz (.str t)), none] = .ok (ilst (cds al t)) [some (.fz (.str al)), some (.fz (.str t)), none] := by
  rw [eComp_map (xs := t.map fun c => D.str [c]) (fun d => match d with
      | .str [c] => O.fz (.int (ix al c))
      | _ => .fz .non) rfl (by simp [iE, eP, pV, bi_ok, fr_f, itemsD, oo_s]) (by simpa using ht) ?_]
  · simp only [ilst, cds, List.map_map]
    rfl
  · intro d hd
    obtain ⟨c, hc, rfl⟩ := List.mem_map.mp hd
    obtain ⟨k, hk⟩ := findN_some (List.all_eq_true.mp hw c hc)
    have : opIndex (.str al) (.str [c]) = some (intO (ix al c)) := by
      show (findN al c).map (fun (k : Nat) => intO (k : Int)) = _
      unfold ix
      rw [hk]; rfl
    simp only [List.set, eM, eP, pV, bi_ok, fr_f, isSL, isS, Bool.true_or, if_true, oo_s, List.getElem?_cons_succ, List.getElem?_cons_zero, this, intO]
theorem codes_ok (al t : List Nat) (ht : t.length ≤ line) (hw : t.all (fun c => al.contains c) = true) : sem_codes [.fz (.str al), .fz (.str t)] = .ok (ilst (cds al t)) [] := by
  refine def_ret (ρ := [some (.fz (.str al)), some (.fz (.str t)), none]) rfl ?_ rfl
  simp only [body_codes, sBlk, sRet, List.map, List.replicate, List.cons_append, List.nil_append, Nat.reduceSub, List.append_nil, comp_cds al t ht hw, bi_ok]
theorem key_ok (al t : List Nat) (ht : t.length ≤ line) (hw : t.all (fun c => al.contains c) = true) : sem_law_key [.fz (.str al), .fz (.str t)] = .ok (.tup [.fz (.int t.length), ilst (cds al t)]) [] := by
  refine def_ret (ρ := [some (.fz (.str al)), some (.fz (.str t)), none]) rfl ?_ rfl
  have h1 : e1P opLen (pV 1) [some (.fz (.str al)), some (.fz (.str t)), none] = .ok (.fz (.int t.length)) [some (.fz (.str al)), some (.fz (.str t)), none] := by
    simp only [e1P, pV, fr_f, opLen_s t ht, oo_s, intO, List.getElem?_cons_succ, List.getElem?_cons_zero]
  simp only [body_law_key, sBlk, sRet, List.map, List.replicate, List.cons_append, List.nil_append, Nat.reduceSub, List.append_nil, eTup, eAll, h1, comp_cds al t ht hw, bi_ok]
  rfl
def iD (l : List Int) : List D := l.map .int
theorem plain_ints (n : Nat) : ∀ l : List Int, (iD l).all (plainN n) = true
  | [] => rfl
  | i :: r => by
    show (plainN n (.int i) && (iD r).all (plainN n)) = true
    rw [plain_ints n r]
    cases n <;> rfl
theorem alike_ints : ∀ a b : List Int, alikeDs (iD a) (iD b) = true
  | [], _ => by unfold iD; rw [List.map_nil]; unfold alikeDs; rfl
  | _ :: _, [] => rfl
  | x :: a, y :: b => by
    show (alikeD (.int x) (.int y) && alikeDs (iD a) (iD b)) = true
    rw [alike_ints a b]; rfl
theorem lt_ints (a b : List Int) : opLt (.lst (iD a)) (.lst (iD b)) = some (boolO (ltBs (iD a) (iD b))) := by
  have h : ltOk (.lst (iD a)) (.lst (iD b)) = true := by
    show (((iD a).all (plainN 59) && (iD b).all (plainN 59)) && alikeDs (iD a) (iD b) && true) = true
    rw [plain_ints, plain_ints, alike_ints]; rfl
  show (ltD (.lst (iD a)) (.lst (iD b))).map boolO = _
  unfold ltD
  rw [if_pos h]
  rfl
theorem lt_keys (x y : Int) (a b : List Int) : opLt (.tup [.int x, .lst (iD a)]) (.tup [.int y, .lst (iD b)]) = some (boolO (if x = y then (if eqvs (iD a) (iD b) then false else ltBs (iD a) (iD b)) else decide (x < y))) := by
  have h : ltOk (.tup [.int x, .lst (iD a)]) (.tup [.int y, .lst (iD b)]) = true := by
    show ((((true && (((iD a).all (plainN 58)) && true))) && (true && (((iD b).all (plainN 58)) && true))) && (true && (alikeDs (iD a) (iD b) && true)) && true) = true
    rw [plain_ints, plain_ints, alike_ints]; rfl
  show (ltD (.tup [.int x, .lst (iD a)]) (.tup [.int y, .lst (iD b)])).map boolO = _
  unfold ltD
  rw [if_pos h]
  show some (boolO (if (x == y) = true then (if eqvs (iD a) (iD b) = true then false else ltBs (iD a) (iD b)) else decide (x < y))) = _
  simp
theorem eq_not_lt : ∀ a b : List Int, eqvs (iD a) (iD b) = true → ltBs (iD a) (iD b) = false
  | _, [], _ => by unfold iD; rw [List.map_nil]; unfold ltBs; rfl
  | [], _ :: _, h => by cases h
  | x :: a, y :: b, h => by
    have h : (eqv (.int x) (.int y) && eqvs (iD a) (iD b)) = true := h
    obtain ⟨h1, h2⟩ := Bool.and_eq_true_iff.mp h
    show (if eqv (.int x) (.int y) = true then ltBs (iD a) (iD b) else _) = false
    rw [if_pos h1]
    exact eq_not_lt a b h2

theorem ne_ii (a b : Int) : opNe (.int a) (.int b) = some (boolO (!(a == b))) := by
  unfold opNe eqOk flatD eqv
  simp
def cbB (al a b : List Nat) : Bool := if a.length = b.length then ltBs (iD (cds al a)) (iD (cds al b)) else decide (a.length < b.length)
theorem fr_ilst (L : List Int) : (ilst L).fr = .lst (iD L) := by
  show D.lst (frs (L.map fun i => .fz (.int i))) = _
  rw [frs_ilst]; rfl
theorem key_lt (al a b : List Nat) : opLt (O.fr (.tup [.fz (.int a.length), ilst (cds al a)])) (O.fr (.tup [.fz (.int b.length), ilst (cds al b)])) = some (boolO (cbB al a b)) := by
  have e : ∀ t : List Nat, O.fr (.tup [.fz (.int t.length), ilst (cds al t)]) = .tup [.int t.length, .lst (iD (cds al t))] := fun t => by
    show D.tup [O.fr (.fz (.int t.length)), (ilst (cds al t)).fr] = _
    rw [fr_ilst]; rfl
  rw [e, e, lt_keys]
  congr 2
  unfold cbB
  by_cases h : a.length = b.length
  · rw [if_pos h, if_pos (by omega)]
    cases he : eqvs (iD (cds al a)) (iD (cds al b))
    · simp
    · rw [eq_not_lt _ _ he]; simp
  · rw [if_neg h, if_neg (by omega), decide_eq_decide]
    omega
theorem before_ok (al a b : List Nat) (ha : a.length ≤ line) (hb : b.length ≤ line) (wa : a.all (fun c => al.contains c) = true) (wb : b.all (fun c => al.contains c) = true) : sem_comes_before [.fz (.str al), .fz (.str a), .fz (.str b)] = .ok (boolO (cbB al a b)) [] := by
  refine def_ret (ρ := [some (.fz (.str al)), some (.fz (.str a)), some (.fz (.str b))]) rfl ?_ rfl
  have h0 : eP (pV 0) [some (.fz (.str al)), some (.fz (.str a)), some (.fz (.str b))] = .ok (.fz (.str al)) [some (.fz (.str al)), some (.fz (.str a)), some (.fz (.str b))] := rfl
  have h1 : eP (pV 1) [some (.fz (.str al)), some (.fz (.str a)), some (.fz (.str b))] = .ok (.fz (.str a)) [some (.fz (.str al)), some (.fz (.str a)), some (.fz (.str b))] := rfl
  have h2 : eP (pV 2) [some (.fz (.str al)), some (.fz (.str a)), some (.fz (.str b))] = .ok (.fz (.str b)) [some (.fz (.str al)), some (.fz (.str a)), some (.fz (.str b))] := rfl
  have l1 : e1P opLen (pV 1) [some (.fz (.str al)), some (.fz (.str a)), some (.fz (.str b))] = .ok (.fz (.int a.length)) [some (.fz (.str al)), some (.fz (.str a)), some (.fz (.str b))] := by
    simp only [e1P, pV, fr_f, opLen_s a ha, oo_s, intO, List.getElem?_cons_succ, List.getElem?_cons_zero]
  have l2 : e1P opLen (pV 2) [some (.fz (.str al)), some (.fz (.str a)), some (.fz (.str b))] = .ok (.fz (.int b.length)) [some (.fz (.str al)), some (.fz (.str a)), some (.fz (.str b))] := by
    simp only [e1P, pV, fr_f, opLen_s b hb, oo_s, intO, List.getElem?_cons_succ, List.getElem?_cons_zero]
  have c1 := callv2 (f := sem_codes) h0 h1 (codes_ok al a ha wa)
  have c2 := callv2 (f := sem_codes) h0 h2 (codes_ok al b hb wb)
  simp only [body_comes_before, sBlk, sSeq, sIf, List.map, List.replicate, List.cons_append, List.nil_append, Nat.reduceSub, List.append_nil, tE, e2, l1, l2, bi_ok, fr_f, ne_ii, oo_s, boolO, tru_b]
  by_cases h : a.length = b.length
  · have : (!((a.length : Int) == (b.length : Int))) = false := by simp [h]
    rw [this]
    simp only [Bool.false_eq_true, if_false, sNx, bi_ok, sRet, e2, c1, c2, fr_ilst, lt_ints, oo_s]
    unfold cbB
    rw [if_pos h]
    rfl
  · have : (!((a.length : Int) == (b.length : Int))) = true := by simp; omega
    rw [this]
    simp only [if_true, bi_ok, sRet, e2, l1, l2, fr_f, opLt_ii, oo_s]
    unfold cbB
    rw [if_neg h]
    congr 3
    rw [decide_eq_decide]; omega
theorem strs_singles : ∀ l : List Nat, strsOf (l.map fun c => .str [c]) = some (l.map fun c => [c])
  | [] => rfl
  | a :: r => by show (strsOf (r.map _)).map _ = _; rw [strs_singles r]; rfl
theorem join_singles : ∀ l : List Nat, joinL [] (l.map fun c => [c]) = l
  | [] => rfl
  | [a] => rfl
  | a :: b :: r => by
    show [a] ++ [] ++ joinL [] ((b :: r).map fun c => [c]) = _
    rw [join_singles (b :: r)]; rfl
theorem size_singles : ∀ l : List Nat, sizeL [] (l.map fun c => [c]) = l.length
  | [] => rfl
  | a :: r => by
    show [a].length + ([] : List Nat).length + sizeL [] (r.map fun c => [c]) = _
    rw [size_singles r]; simp; omega
theorem join_ok (l : List Nat) (h : l.length ≤ line) : opJoin (.str []) (.lst (l.map fun c => .str [c])) = some (.fz (.str l)) := by
  show ((strsOf (l.map fun c => .str [c])).bind fun l => if sizeL [] l ≤ line then some (O.fz (.str (joinL [] l))) else none) = _
  rw [strs_singles]
  show (if sizeL [] (l.map fun c => [c]) ≤ line then some (O.fz (.str (joinL [] (l.map fun c => [c])))) else none) = _
  rw [size_singles, if_pos h, join_singles]
theorem singles_of {al : List Nat} : ∀ {os : List O}, (∀ o ∈ os, ∃ c, c ∈ al ∧ o = .fz (.str [c])) → ∃ l : List Nat, l.length = os.length ∧ (∀ c ∈ l, c ∈ al) ∧ frs os = l.map fun c => .str [c]
  | [], _ => ⟨[], rfl, fun _ h => (by cases h), rfl⟩
  | o :: r, h => by
    obtain ⟨c, hc, rfl⟩ := h o (List.mem_cons_self ..)
    obtain ⟨l, h1, h2, h3⟩ := singles_of fun o ho => h o (List.mem_cons_of_mem _ ho)
    refine ⟨c :: l, by simp [h1], fun d hd => ?_, by show O.fr (.fz (.str [c])) :: frs r = _; rw [h3]; rfl⟩
    rcases List.mem_cons.mp hd with rfl | hd
    · exact hc
    · exact h2 d hd

def wE (L : List Int) (al : List Nat) (n : Nat) : Env := [some (boxO L n), some (.fz (.str al)), some (.fz (.int 6)), none]
theorem sm62 {z : Int} (h0 : 0 ≤ z) (h : z < 1000) : small62 z = true := by unfold small62; simp; omega
theorem word_ok (L : List Int) (n : Nat) (al : List Nat) (h0 : 0 < al.length) (h5 : al.length ≤ 5) : ∃ w n', sem_law_word [boxO L n, .fz (.str al), .fz (.int 6)] = .ok (.fz (.str w)) [some (boxO L n')] ∧ w.length ≤ 6 ∧ ∀ c ∈ w, c ∈ al := by
  have hl5 : al.length ≤ line := by unfold line; omega
  obtain ⟨z, z0, z1, ez⟩ := draw_ok L n 7 (by decide)
  have hr : eCall sem_law_draw [.io 0, .v (e2 opAdd (eP (pV 2)) (eC (.int 1)))] (wE L al n) = .ok (.fz (.int z)) (wE L al (n + 1)) :=
    callio1 (b := boxO L n) (x := .fz (.int 7)) rfl (by simp [e2, eP, pV, wE, bi_ok, eC, fr_f, opAdd_ii, oo_s, intO]) ez
  have hit : iRange1 (eCall sem_law_draw [.io 0, .v (e2 opAdd (eP (pV 2)) (eC (.int 1)))]) (wE L al n) = .ok (rangeL 0 1 z.toNat) (wE L al (n + 1)) := by
    simp only [iRange1, hr, bi_ok, sm62 z0 (by omega : z < 1000), if_true]
  obtain ⟨os, n', l, hos, e⟩ := eComp_st (E := wE L al) (i := 3) (ce := e2 opItem (eP (pV 1)) (eCall sem_law_draw [.io 0, .v (e1P opLen (pV 1))])) (fun _ o _ => ∃ c, c ∈ al ∧ o = .fz (.str [c])) (fun _ => rfl) hit (by rw [rl_len]; unfold line; omega) (by
    intro d s hd
    obtain ⟨y, y0, y1, ey⟩ := draw_ok L s al.length (by omega)
    have hy : y.toNat < al.length := by omega
    refine ⟨.fz (.str [al[y.toNat]]), s + 1, ?_, _, List.getElem_mem hy, rfl⟩
    have hd : eCall sem_law_draw [.io 0, .v (e1P opLen (pV 1))] ((wE L al s).set 3 (some (.fz d))) = .ok (.fz (.int y)) ((wE L al (s + 1)).set 3 (some (.fz d))) :=
      callio1 (b := boxO L s) (x := .fz (.int al.length)) rfl (by simp [e1P, pV, wE, fr_f, opLen_s al hl5, oo_s, intO]) ey
    have hi : itemD (.str al) (.int y) = some (.str [al[y.toNat]]) := by
      rw [itemD_s al y hl5, idx_within y0 (by omega)]
      simp [List.getElem?_eq_getElem hy]
    have hp : eP (pV 1) ((wE L al s).set 3 (some (.fz d))) = .ok (.fz (.str al)) ((wE L al s).set 3 (some (.fz d))) := rfl
    simp only [e2, hp, bi_ok, hd, fr_f, opItem, hi, Option.map, oo_s])
  obtain ⟨w, lw, hw, ew⟩ := singles_of (al := al) (os := os) fun o ho => by
    obtain ⟨_, _, c, h1, h2⟩ := hos o ho
    exact ⟨c, h1, h2⟩
  rw [rl_len] at l
  refine ⟨w, n', ?_, by omega, hw⟩
  refine def_ret (ρ := wE L al n') rfl ?_ rfl
  have hj : opJoin (.str []) (O.fr (.lst os)) = some (.fz (.str w)) := by
    show opJoin (.str []) (.lst (frs os)) = _
    rw [ew]
    exact join_ok w (by unfold line; omega)
  have e' := e
  show body_law_word (wE L al n) = _
  simp only [body_law_word, sBlk, sRet, eM, eC, bi_ok, fr_f, isS, if_true, e', hj, oo_s]
def ABC : List Nat := [97, 98, 99, 100, 122, 65]
def GoodT (o : O) : Prop := (∃ t : List Nat, o.fr = .str t ∧ t.length ≤ 6) ∨ opIsInst "str" o.fr = some (boolO false)
def lE (ns : List Int) (L : List Int) (os : List O) (a : Option O) (n : Nat) : Env := [some (.fz (.scr ns)), some (boxO L n), some (.lst os), a, none, none, none, none, none, none]
theorem thing_ok (ns L : List Int) (os : List O) (a : Option O) (n : Nat) (hl : os.length < line) : ∃ n' w, w.length ≤ 6 ∧ sApp (lV 2) (eM isS opJoin (eC (.str [])) (eComp [9] (.nm 9) (iRange1 (e2 opAdd (eC (.int 1)) (eCall sem_law_draw [.io 1, .v (eC (.int 6))]))) tT (e2 opItem (eC (.str [97, 98, 99, 100, 122, 65])) (eCall sem_law_draw [.io 1, .v (eC (.int 6))])))) (lE ns L os a n) = .ok .nx (lE ns L (os ++ [.fz (.str w)]) a n') := by
  rw [show ([97, 98, 99, 100, 122, 65] : List Nat) = ABC from rfl]
  obtain ⟨z, z0, z1, ez⟩ := draw_ok L n 6 (by decide)
  have hr : eCall sem_law_draw [.io 1, .v (eC (.int 6))] (lE ns L os a n) = .ok (.fz (.int z)) (lE ns L os a (n + 1)) := callio1 (b := boxO L n) (x := .fz (.int 6)) rfl rfl ez
  have hit : iRange1 (e2 opAdd (eC (.int 1)) (eCall sem_law_draw [.io 1, .v (eC (.int 6))])) (lE ns L os a n) = .ok (rangeL 0 1 (1 + z).toNat) (lE ns L os a (n + 1)) := by
    simp only [iRange1, e2, eC, hr, bi_ok, fr_f, opAdd_ii, oo_s, intO, sm62 (by omega : 0 ≤ 1 + z) (by omega : 1 + z < 1000), if_true]
  obtain ⟨ws, n', l, hos, e⟩ := eComp_st (E := lE ns L os a) (i := 9) (ce := e2 opItem (eC (.str ABC)) (eCall sem_law_draw [.io 1, .v (eC (.int 6))])) (fun _ o _ => ∃ c, c ∈ ABC ∧ o = .fz (.str [c])) (fun _ => rfl) hit (by rw [rl_len]; unfold line; omega) (by
    intro d s hd
    obtain ⟨y, y0, y1, ey⟩ := draw_ok L s 6 (by decide)
    have hy : y.toNat < ABC.length := by show y.toNat < 6; omega
    refine ⟨.fz (.str [ABC[y.toNat]]), s + 1, ?_, _, List.getElem_mem hy, rfl⟩
    have hd : eCall sem_law_draw [.io 1, .v (eC (.int 6))] ((lE ns L os a s).set 9 (some (.fz d))) = .ok (.fz (.int y)) ((lE ns L os a (s + 1)).set 9 (some (.fz d))) :=
      callio1 (b := boxO L s) (x := .fz (.int 6)) rfl rfl ey
    have hi : itemD (.str ABC) (.int y) = some (.str [ABC[y.toNat]]) := by
      rw [itemD_s ABC y (by decide), idx_within (n := ABC.length) y0 (by show y < ((6 : Nat) : Int); omega)]
      simp [List.getElem?_eq_getElem hy]
    have hp : eC (.str ABC) ((lE ns L os a s).set 9 (some (.fz d))) = .ok (.fz (.str ABC)) ((lE ns L os a s).set 9 (some (.fz d))) := rfl
    simp only [e2, hp, bi_ok, hd, fr_f, opItem, hi, Option.map, oo_s])
  obtain ⟨w, lw, hw, ew⟩ := singles_of (al := ABC) (os := ws) fun o ho => by
    obtain ⟨_, _, c, h1, h2⟩ := hos o ho
    exact ⟨c, h1, h2⟩
  rw [rl_len] at l
  refine ⟨n', w, by omega, ?_⟩
  have hj : opJoin (.str []) (O.fr (.lst ws)) = some (.fz (.str w)) := by
    show opJoin (.str []) (.lst (frs ws)) = _
    rw [ew]
    exact join_ok w (by unfold line; omega)
  have h0 : eC (.str []) (lE ns L os a n) = .ok (.fz (.str [])) (lE ns L os a n) := rfl
  have hE : eM isS opJoin (eC (.str [])) (eComp [9] (.nm 9) (iRange1 (e2 opAdd (eC (.int 1)) (eCall sem_law_draw [.io 1, .v (eC (.int 6))]))) tT (e2 opItem (eC (.str ABC)) (eCall sem_law_draw [.io 1, .v (eC (.int 6))]))) (lE ns L os a n) = .ok (.fz (.str w)) (lE ns L os a n') := by
    simp only [eM, h0, bi_ok, fr_f, isS, if_true, e, hj, oo_s]
  have hla : lstAt (lV 2) (lE ns L os a n) = true := rfl
  have hm : modL (2, []) (fun s => appO s (.fz (.str w))) (lE ns L os a n') = some (lE ns L (os ++ [.fz (.str w)]) a n') := by
    simp [modL, lE, subO, appO_l, hl, setO]
  simp only [sApp, hla, if_true, unitS, atThen, lV, hE, bi_ok, hm]

/-! ### the law -/
theorem both (d : D) (h : GoodT (.fz d)) : ∃ b, sem_is_alphabet [.fz d] = .ok (boolO b) [] ∧ sem_law_good [.fz d] = .ok (boolO b) [] := by
  rcases h with ⟨t, e, hl⟩ | h
  · have e : d = .str t := e
    subst e
    have : t.length ≤ line := by unfold line; omega
    exact ⟨_, is_alphabet_str t this, law_good_str t this⟩
  · exact ⟨false, is_alphabet_no d h, law_good_no d h⟩
theorem test4 (ρ : Env) (d : D) (h : GoodT (.fz d)) (h4 : ρ[4]? = some (some (.fz d))) : tNot (tE (eCall sem_law_is [.v (eCall sem_is_alphabet [.v (eP (pV 4))]), .v (eCall sem_law_good [.v (eP (pV 4))])])) ρ = .ok false ρ := by
  obtain ⟨b, h1, h2⟩ := both d h
  have hp : eP (pV 4) ρ = .ok (.fz d) ρ := by simp only [eP, pV, h4]
  have c1 := callv1 (f := sem_is_alphabet) hp h1
  have c2 := callv1 (f := sem_law_good) hp h2
  have c3 := callv2 (f := sem_law_is) c1 c2 (law_is_bb b b)
  simp only [tNot, tE, c3, bi_ok, boolO, fr_f, tru_b, oo_s]
  simp
theorem frs_mem : ∀ {os : List O} {d : D}, d ∈ frs os → ∃ o, o ∈ os ∧ d = o.fr
  | o :: r, d, h => by
    rcases List.mem_cons.mp (show d ∈ o.fr :: frs r from h) with rfl | h
    · exact ⟨o, List.mem_cons_self .., rfl⟩
    · obtain ⟨o', h1, h2⟩ := frs_mem h
      exact ⟨o', List.mem_cons_of_mem _ h1, h2⟩
  | [], _, h => by cases h
def things0 : List O := [.fz (.str []), .fz (.str [97]), .fz (.str [97, 98, 99, 100, 101]), .fz (.str [97, 98, 99, 100, 101, 102]), .fz (.str [97, 98, 97]), .fz (.str [97, 66]), .fz (.str [97, 49]), .fz (.str [122, 121, 120, 119, 118]), .fz (.int 5), .fz .non, .lst [.fz (.str [97])], .fz (.str [97, 32, 98])]
theorem things0_good : ∀ o ∈ things0, GoodT o := by
  intro o h
  simp only [things0, List.mem_cons, List.not_mem_nil, or_false] at h
  rcases h with rfl | rfl | rfl | rfl | rfl | rfl | rfl | rfl | rfl | rfl | rfl | rfl
  all_goals first | exact .inr rfl | exact .inl ⟨_, rfl, by decide⟩
def gE (ns L : List Int) (td : D) (a b : Option O) (al : List Nat) (wd : List D) (c d : Option O) (n : Nat) : Env := [some (.fz (.scr ns)), some (boxO L n), some (.fz td), a, b, some (.fz (.str al)), some (.fz (.lst wd)), c, d, none]
def hE (ns L : List Int) (td : D) (a b : Option O) (al : List Nat) (n : Nat) : Env := [some (.fz (.scr ns)), some (boxO L n), some (.fz td), a, b, some (.fz (.str al)), none, none, none, none]
def GoodA (al : List Nat) : Prop := 0 < al.length ∧ al.length ≤ 5 ∧ al.contains 113 = false
def GoodW (al : List Nat) (d : D) : Prop := ∃ w, d = .str w ∧ w.length ≤ 6 ∧ w.all (fun c => al.contains c) = true
theorem words_step (ns L : List Int) (td : D) (a b : Option O) (al : List Nat) (n : Nat) (ha : GoodA al) : ∃ wd n', (∀ d ∈ wd, GoodW al d) ∧ sSet (.nm 6) (eFz (eComp [9] (.nm 9) (iRange1 (eC (.int 10))) tT (eCall sem_law_word [.io 1, .v (eP (pV 5)), .v (eC (.int 6))]))) (hE ns L td a b al n) = .ok .nx (gE ns L td a b al wd none none n') := by
  obtain ⟨os, n', l, hos, e⟩ := eComp_st (E := hE ns L td a b al) (i := 9) (s := n) (it := iRange1 (eC (.int 10))) (xs := rangeL 0 1 10) (ρ := hE ns L td a b al n) (ce := eCall sem_law_word [.io 1, .v (eP (pV 5)), .v (eC (.int 6))]) (fun _ o _ => ∃ w, o = .fz (.str w) ∧ w.length ≤ 6 ∧ ∀ c ∈ w, c ∈ al) (fun _ => rfl) (r10 _) (by decide) (by
    intro d s hd
    obtain ⟨w, n2, ew, lw, hw⟩ := word_ok L s al ha.1 ha.2.1
    exact ⟨.fz (.str w), n2, callio2 (b := boxO L s) (x := .fz (.str al)) (y := .fz (.int 6)) rfl rfl rfl ew, w, rfl, lw, hw⟩)
  refine ⟨frs os, n', fun d hd => ?_, ?_⟩
  · obtain ⟨o, ho, rfl⟩ := frs_mem hd
    obtain ⟨_, _, w, rfl, lw, hw⟩ := hos o ho
    exact ⟨w, rfl, lw, List.all_eq_true.mpr fun c hc => by simpa using hw c hc⟩
  · simp only [sSet, eFz, e, bi_ok]
    rfl
theorem test8 (ρ : Env) (al v w : List Nat) (hv : v.length ≤ 6) (hw : w.length ≤ 6) (av : v.all (fun c => al.contains c) = true) (aw : w.all (fun c => al.contains c) = true) (h5 : ρ[5]? = some (some (.fz (.str al)))) (h7 : ρ[7]? = some (some (.fz (.str v)))) (h8 : ρ[8]? = some (some (.fz (.str w)))) :
    tNot (tE (eCall sem_law_is [.v (eCall sem_comes_before [.v (eP (pV 5)), .v (eP (pV 7)), .v (eP (pV 8))]), .v (e2 opLt (eCall sem_law_key [.v (eP (pV 5)), .v (eP (pV 7))]) (eCall sem_law_key [.v (eP (pV 5)), .v (eP (pV 8))]))])) ρ = .ok false ρ := by
  have lv : v.length ≤ line := by unfold line; omega
  have lw : w.length ≤ line := by unfold line; omega
  have p5 : eP (pV 5) ρ = .ok (.fz (.str al)) ρ := by simp only [eP, pV, h5]
  have p7 : eP (pV 7) ρ = .ok (.fz (.str v)) ρ := by simp only [eP, pV, h7]
  have p8 : eP (pV 8) ρ = .ok (.fz (.str w)) ρ := by simp only [eP, pV, h8]
  have c1 := callv3 (f := sem_comes_before) p5 p7 p8 (before_ok al v w lv lw av aw)
  have k1 := callv2 (f := sem_law_key) p5 p7 (key_ok al v lv av)
  have k2 := callv2 (f := sem_law_key) p5 p8 (key_ok al w lw aw)
  have c2 : e2 opLt (eCall sem_law_key [.v (eP (pV 5)), .v (eP (pV 7))]) (eCall sem_law_key [.v (eP (pV 5)), .v (eP (pV 8))]) ρ = .ok (boolO (cbB al v w)) ρ := by
    simp only [e2, k1, k2, bi_ok, key_lt, oo_s]
  have c3 := callv2 (f := sem_law_is) c1 c2 (law_is_bb _ _)
  simp only [tNot, tE, c3, bi_ok, boolO, fr_f, tru_b, oo_s]
  simp
theorem test7 (ρ : Env) (al v : List Nat) (hq : al.contains 113 = false) (hv : v.length ≤ 6) (av : v.all (fun c => al.contains c) = true) (h5 : ρ[5]? = some (some (.fz (.str al)))) (h7 : ρ[7]? = some (some (.fz (.str v)))) :
    tOr (tNot (tE (eCall sem_law_is [.v (eCall sem_is_word [.v (eP (pV 5)), .v (eP (pV 7))]), .v (eC (.bl true))]))) (tNot (tE (eCall sem_law_is [.v (eCall sem_is_word [.v (eP (pV 5)), .v (e2 opAdd (eP (pV 7)) (eC (.str [113])))]), .v (eC (.bl false))]))) ρ = .ok false ρ := by
  have lv : v.length ≤ line := by unfold line; omega
  have lv2 : (v ++ [113]).length ≤ line := by simp; unfold line; omega
  have p5 : eP (pV 5) ρ = .ok (.fz (.str al)) ρ := by simp only [eP, pV, h5]
  have p7 : eP (pV 7) ρ = .ok (.fz (.str v)) ρ := by simp only [eP, pV, h7]
  have pq : e2 opAdd (eP (pV 7)) (eC (.str [113])) ρ = .ok (.fz (.str (v ++ [113]))) ρ := by
    have : v.length + ([113] : List Nat).length ≤ line := by simp; unfold line; omega
    simp only [e2, p7, eC, bi_ok, fr_f, opAdd_ss, if_pos this, oo_s]
  have w1 := is_word_str al v lv
  rw [av] at w1
  have w2 := is_word_str al (v ++ [113]) lv2
  have e0 : (v ++ [113]).all (fun c => al.contains c) = false := by
    rw [List.all_append]
    simp only [List.all_cons, hq, Bool.false_and, Bool.and_false]
  rw [e0] at w2
  have c1 := callv2 (f := sem_is_word) p5 p7 w1
  have c2 := callv2 (f := sem_is_word) p5 pq w2
  have d1 := callv2 (f := sem_law_is) (b := eC (.bl true)) (y := .fz (.bl true)) c1 rfl (law_is_bb true true)
  have d2 := callv2 (f := sem_law_is) (b := eC (.bl false)) (y := .fz (.bl false)) c2 rfl (law_is_bb false false)
  simp only [tOr, tNot, tE, d1, d2, bi_ok, boolO, fr_f, tru_b, oo_s]
  simp
theorem pick_ok (ns L : List Int) (td : D) (a b : Option O) (n : Nat) : ∃ al n', GoodA al ∧ sSet (.nm 5) (e2 opItem (eLst [(eC (.str [98, 97])), (eC (.str [99, 97, 98])), (eC (.str [122])), (eC (.str [100, 97, 99, 98, 101]))]) (eCall sem_law_draw [.io 1, .v (eC (.int 4))])) [some (.fz (.scr ns)), some (boxO L n), some (.fz td), a, b, none, none, none, none, none] = .ok .nx (hE ns L td a b al n') := by
  obtain ⟨z, z0, z1, ez⟩ := draw_ok L n 4 (by decide)
  have hr : eCall sem_law_draw [.io 1, .v (eC (.int 4))] [some (.fz (.scr ns)), some (boxO L n), some (.fz td), a, b, none, none, none, none, none] = .ok (.fz (.int z)) [some (.fz (.scr ns)), some (boxO L (n + 1)), some (.fz td), a, b, none, none, none, none, none] := callio1 (b := boxO L n) (x := .fz (.int 4)) rfl rfl ez
  have hl : eLst [(eC (.str [98, 97])), (eC (.str [99, 97, 98])), (eC (.str [122])), (eC (.str [100, 97, 99, 98, 101]))] [some (.fz (.scr ns)), some (boxO L n), some (.fz td), a, b, none, none, none, none, none] = .ok (.lst [.fz (.str [98, 97]), .fz (.str [99, 97, 98]), .fz (.str [122]), .fz (.str [100, 97, 99, 98, 101])]) [some (.fz (.scr ns)), some (boxO L n), some (.fz td), a, b, none, none, none, none, none] := rfl
  have hz : z = 0 ∨ z = 1 ∨ z = 2 ∨ z = 3 := by omega
  rcases hz with rfl | rfl | rfl | rfl
  · refine ⟨[98, 97], n + 1, ⟨by decide, by decide, by decide⟩, ?_⟩
    simp only [sSet, e2, hl, hr, bi_ok]
    rfl
  · refine ⟨[99, 97, 98], n + 1, ⟨by decide, by decide, by decide⟩, ?_⟩
    simp only [sSet, e2, hl, hr, bi_ok]
    rfl
  · refine ⟨[122], n + 1, ⟨by decide, by decide, by decide⟩, ?_⟩
    simp only [sSet, e2, hl, hr, bi_ok]
    rfl
  · refine ⟨[100, 97, 99, 98, 101], n + 1, ⟨by decide, by decide, by decide⟩, ?_⟩
    simp only [sSet, e2, hl, hr, bi_ok]
    rfl
theorem at_mem {α : Type} {l : List α} {i : Nat} {x : α} (h : l[i]? = some x) : x ∈ l := List.mem_of_getElem? h
theorem law_true (ns : List Int) (hn : ns.length ≤ 63) : ∃ outs, sem_law [.fz (.scr ns)] = .ok (.fz (.bl true)) outs := by
  have h : Ok (sem_law [.fz (.scr ns)]) fun o _ => o = .fz (.bl true) := by
    refine ok_def rfl ?_
    obtain ⟨L, eL⟩ := row_ok ns
    show Ok (body_law [some (.fz (.scr ns)), none, none, none, none, none, none, none, none, none]) _
    simp only [body_law, sBlk]
    have hr : eCall sem_law_row [.v (eP (pV 0)), .v (eC (.int 0)), .v (eC (.int 12))] [some (.fz (.scr ns)), none, none, none, none, none, none, none, none, none] = .ok (.fz (.lst (L.map .int))) [some (.fz (.scr ns)), none, none, none, none, none, none, none, none, none] := callv3 (x := .fz (.scr ns)) (y := .fz (.int 0)) (z := .fz (.int 12)) rfl rfl rfl eL
    refine ok_seq (ρ' := [some (.fz (.scr ns)), some (boxO L 0), none, none, none, none, none, none, none, none]) (by simp only [sSet, eLst, eAll, hr, bi_ok, eC]; rfl) ?_
    refine ok_seq (ρ' := lE ns L things0 none 0) rfl ?_
    refine ok_seqI (fun ρ => ∃ os a n, (∀ o ∈ os, GoodT o) ∧ ρ = lE ns L os a n) ?_ ?_
    · unfold sFor
      rw [show iRange1 (eC (.int 8)) (lE ns L things0 none 0) = .ok (rangeL 0 1 8) (lE ns L things0 none 0) from rfl, bi_ok]
      refine ok_for (fun i ρ => ∃ os a n, os.length = 12 + i ∧ (∀ o ∈ os, GoodT o) ∧ ρ = lE ns L os a n) 0 ⟨things0, none, 0, rfl, things0_good, rfl⟩ ?_ ?_
      · rintro i d ρ hi ⟨os, a, n, lo, ho, rfl⟩
        obtain ⟨hi', rfl⟩ := rl_at hi
        obtain ⟨n', w, hw, e⟩ := thing_ok ns L os (some (.fz (.int (0 + (i : Int))))) n (by rw [lo]; unfold line; omega)
        refine ⟨lE ns L os (some (.fz (.int (0 + (i : Int))))) n, rfl, ?_⟩
        rw [e]
        refine ⟨_, _, _, by simp [lo]; omega, fun o h => ?_, rfl⟩
        rcases List.mem_append.mp h with h | h
        · exact ho o h
        · rw [List.mem_singleton.mp h]
          exact .inl ⟨w, rfl, hw⟩
      · rintro ρ ⟨os, a, n, lo, ho, rfl⟩
        exact ⟨rfl, os, a, n, ho, rfl⟩
    rintro ρ ⟨os, a, n, ho, rfl⟩
    refine ok_seqI (fun ρ => ∃ b, ρ = [some (.fz (.scr ns)), some (boxO L n), some (.fz (.lst (frs os))), a, b, none, none, none, none, none]) ?_ ?_
    · unfold sFor
      rw [show iE (eFrz 2) (lE ns L os a n) = .ok (frs os) [some (.fz (.scr ns)), some (boxO L n), some (.fz (.lst (frs os))), a, none, none, none, none, none, none] from rfl, bi_ok]
      refine ok_for (fun i ρ => ∃ b, ρ = [some (.fz (.scr ns)), some (boxO L n), some (.fz (.lst (frs os))), a, b, none, none, none, none, none]) 0 ⟨_, rfl⟩ ?_ ?_
      · rintro i d ρ hi ⟨b, rfl⟩
        obtain ⟨o, h1, rfl⟩ := frs_mem (at_mem hi)
        refine ⟨[some (.fz (.scr ns)), some (boxO L n), some (.fz (.lst (frs os))), a, some (.fz o.fr), none, none, none, none, none], rfl, ?_⟩
        have ht := test4 [some (.fz (.scr ns)), some (boxO L n), some (.fz (.lst (frs os))), a, some (.fz o.fr), none, none, none, none, none] o.fr (ho o h1) rfl
        simp only [sIf, ht, bi_ok, Bool.false_eq_true, if_false, sNx, ok_ok]
        exact ⟨_, rfl⟩
      · rintro ρ ⟨b, rfl⟩
        exact ⟨rfl, b, rfl⟩
    rintro ρ ⟨b, rfl⟩
    obtain ⟨al, n2, ha, e5⟩ := pick_ok ns L (.lst (frs os)) a b n
    refine ok_seq e5 ?_
    obtain ⟨wd, n3, hw, e6⟩ := words_step ns L (.lst (frs os)) a b al n2 ha
    refine ok_seq e6 ?_
    refine ok_seqI (fun ρ => ∃ c d, ρ = gE ns L (.lst (frs os)) a b al wd c d n3) ?_ ?_
    · unfold sFor
      rw [show iE (eP (pV 6)) (gE ns L (.lst (frs os)) a b al wd none none n3) = .ok wd (gE ns L (.lst (frs os)) a b al wd none none n3) from rfl, bi_ok]
      refine ok_for (fun i ρ => ∃ c d, ρ = gE ns L (.lst (frs os)) a b al wd c d n3) 0 ⟨_, _, rfl⟩ ?_ ?_
      · rintro i x ρ hi ⟨c, d, rfl⟩
        obtain ⟨v, rfl, lv, av⟩ := hw x (at_mem hi)
        refine ⟨gE ns L (.lst (frs os)) a b al wd (some (.fz (.str v))) d n3, rfl, ?_⟩
        refine ok_seq (ρ' := gE ns L (.lst (frs os)) a b al wd (some (.fz (.str v))) d n3) ?_ ?_
        · have ht := test7 (gE ns L (.lst (frs os)) a b al wd (some (.fz (.str v))) d n3) al v ha.2.2 lv av rfl rfl
          simp only [sIf, ht, bi_ok, Bool.false_eq_true, if_false, sNx]
        rw [show iE (eP (pV 6)) (gE ns L (.lst (frs os)) a b al wd (some (.fz (.str v))) d n3) = .ok wd (gE ns L (.lst (frs os)) a b al wd (some (.fz (.str v))) d n3) from rfl, bi_ok]
        refine ok_for (fun i ρ => ∃ d, ρ = gE ns L (.lst (frs os)) a b al wd (some (.fz (.str v))) d n3) 0 ⟨_, rfl⟩ ?_ ?_
        · rintro j y ρ hj ⟨d', rfl⟩
          obtain ⟨w, rfl, lw, aw⟩ := hw y (at_mem hj)
          refine ⟨gE ns L (.lst (frs os)) a b al wd (some (.fz (.str v))) (some (.fz (.str w))) n3, rfl, ?_⟩
          have ht := test8 (gE ns L (.lst (frs os)) a b al wd (some (.fz (.str v))) (some (.fz (.str w))) n3) al v w lv lw av aw rfl rfl rfl
          simp only [sIf, ht, bi_ok, Bool.false_eq_true, if_false, sNx, ok_ok]
          exact ⟨_, rfl⟩
        · rintro ρ ⟨d', rfl⟩
          exact ⟨_, _, rfl⟩
      · rintro ρ ⟨c, d, rfl⟩
        exact ⟨rfl, c, d, rfl⟩
    rintro ρ ⟨c, d, rfl⟩
    have p5 : eP (pV 5) (gE ns L (.lst (frs os)) a b al wd c d n3) = .ok (.fz (.str al)) (gE ns L (.lst (frs os)) a b al wd c d n3) := rfl
    have q1 := callv2 (f := sem_is_word) (b := eC (.int 5)) (y := .fz (.int 5)) p5 rfl (is_word_no al (.int 5) rfl)
    have q2 := callv2 (f := sem_is_word) (b := eLst [eP (pV 5)]) (y := .lst [.fz (.str al)]) p5 rfl (is_word_no al (.lst [.str al]) rfl)
    have f0 : opIs (.bl false) (.bl false) = some (boolO true) := rfl
    simp only [sRet, eAnd, e2, q1, q2, bi_ok, boolO, fr_f, eC, f0, oo_s, ok_ok]
    exact ⟨[], rfl, trivial⟩
  obtain ⟨o, ρ, e, rfl⟩ := ok_eq h
  exact ⟨ρ, e⟩
end FA
namespace FA
open PySem PySem.Spec PyProof.Rows L2
def top (i : Nat) : Stmt := PySem.Challenge.pw_foreaft_k01_words.main.body.getD i (.Pass ⟨0, 0, 0, 0⟩)
abbrev st_is_alphabet : Stmt := top 3
abbrev nm_is_alphabet : List Str := ["thing", "letter"]
theorem sc_is_alphabet : FnScope ["thing", "letter"] ["thing"] (defScope st_is_alphabet) := ⟨rfl, rfl, rfl, by decide +kernel, rfl, by decide +kernel, by decide +kernel⟩
abbrev st_is_word : Stmt := top 4
abbrev nm_is_word : List Str := ["alphabet", "thing", "letter"]
theorem sc_is_word : FnScope ["alphabet", "thing", "letter"] ["alphabet", "thing"] (defScope st_is_word) := ⟨rfl, rfl, rfl, by decide +kernel, rfl, by decide +kernel, by decide +kernel⟩
abbrev st_codes : Stmt := top 5
abbrev nm_codes : List Str := ["alphabet", "word", "letter"]
theorem sc_codes : FnScope ["alphabet", "word", "letter"] ["alphabet", "word"] (defScope st_codes) := ⟨rfl, rfl, rfl, by decide +kernel, rfl, by decide +kernel, by decide +kernel⟩
abbrev st_comes_before : Stmt := top 6
abbrev nm_comes_before : List Str := ["alphabet", "one", "two"]
theorem sc_comes_before : FnScope ["alphabet", "one", "two"] ["alphabet", "one", "two"] (defScope st_comes_before) := ⟨rfl, rfl, rfl, by decide +kernel, rfl, by decide +kernel, by decide +kernel⟩
abbrev st_law_cell : Stmt := top 8
abbrev nm_law_cell : List Str := ["_law_script", "_law_k"]
theorem sc_law_cell : FnScope ["_law_script", "_law_k"] ["_law_script", "_law_k"] (defScope st_law_cell) := ⟨rfl, rfl, rfl, by decide +kernel, rfl, by decide +kernel, by decide +kernel⟩
abbrev st_law_row : Stmt := top 9
abbrev nm_law_row : List Str := ["_law_script", "_law_first", "_law_last", "_law_row_here", "_law_k", "_law_cell_here", "_law_turn"]
theorem sc_law_row : FnScope ["_law_script", "_law_first", "_law_last", "_law_row_here", "_law_k", "_law_cell_here", "_law_turn"] ["_law_script", "_law_first", "_law_last"] (defScope st_law_row) := ⟨rfl, rfl, rfl, by decide +kernel, rfl, by decide +kernel, by decide +kernel⟩
abbrev st_law_draw : Stmt := top 10
abbrev nm_law_draw : List Str := ["_law_box", "_law_many", "_law_at"]
theorem sc_law_draw : FnScope ["_law_box", "_law_many", "_law_at"] ["_law_box", "_law_many"] (defScope st_law_draw) := ⟨rfl, rfl, rfl, by decide +kernel, rfl, by decide +kernel, by decide +kernel⟩
abbrev st_law_words : Stmt := top 11
abbrev nm_law_words : List Str := ["_law_alphabet", "_law_most", "_law_out", "_law_last", "_law_n", "_law_longer", "_law_word_here", "_law_letter"]
theorem sc_law_words : FnScope ["_law_alphabet", "_law_most", "_law_out", "_law_last", "_law_n", "_law_longer", "_law_word_here", "_law_letter"] ["_law_alphabet", "_law_most"] (defScope st_law_words) := ⟨rfl, rfl, rfl, by decide +kernel, rfl, by decide +kernel, by decide +kernel⟩
abbrev st_law_word : Stmt := top 12
abbrev nm_law_word : List Str := ["_law_box", "_law_alphabet", "_law_most", "_law_k"]
theorem sc_law_word : FnScope ["_law_box", "_law_alphabet", "_law_most", "_law_k"] ["_law_box", "_law_alphabet", "_law_most"] (defScope st_law_word) := ⟨rfl, rfl, rfl, by decide +kernel, rfl, by decide +kernel, by decide +kernel⟩
abbrev st_law_key : Stmt := top 13
abbrev nm_law_key : List Str := ["_law_alphabet", "_law_word_here", "_law_letter"]
theorem sc_law_key : FnScope ["_law_alphabet", "_law_word_here", "_law_letter"] ["_law_alphabet", "_law_word_here"] (defScope st_law_key) := ⟨rfl, rfl, rfl, by decide +kernel, rfl, by decide +kernel, by decide +kernel⟩
abbrev st_law_good : Stmt := top 14
abbrev nm_law_good : List Str := ["_law_thing", "_law_k"]
theorem sc_law_good : FnScope ["_law_thing", "_law_k"] ["_law_thing"] (defScope st_law_good) := ⟨rfl, rfl, rfl, by decide +kernel, rfl, by decide +kernel, by decide +kernel⟩
abbrev st_law_is : Stmt := top 15
abbrev nm_law_is : List Str := ["_law_told", "_law_due"]
theorem sc_law_is : FnScope ["_law_told", "_law_due"] ["_law_told", "_law_due"] (defScope st_law_is) := ⟨rfl, rfl, rfl, by decide +kernel, rfl, by decide +kernel, by decide +kernel⟩
abbrev st_law : Stmt := top 16
abbrev nm_law : List Str := ["_law_script", "_law_box", "_law_things", "_law_turn", "_law_thing", "_law_alphabet", "_law_words_here", "_law_one", "_law_two", "_law_k"]
theorem sc_law : FnScope ["_law_script", "_law_box", "_law_things", "_law_turn", "_law_thing", "_law_alphabet", "_law_words_here", "_law_one", "_law_two", "_law_k"] ["_law_script"] (defScope st_law) := ⟨rfl, rfl, rfl, by decide +kernel, rfl, by decide +kernel, by decide +kernel⟩
theorem bt_abs : bootBuiltins "abs" = some (.builtin "abs") := by decide +kernel
theorem bt_all : bootBuiltins "all" = some (.builtin "all") := by decide +kernel
theorem bt_bool : bootBuiltins "bool" = some (.type "bool") := by decide +kernel
theorem bt_int : bootBuiltins "int" = some (.type "int") := by decide +kernel
theorem bt_isinstance : bootBuiltins "isinstance" = some (.builtin "isinstance") := by decide +kernel
theorem bt_len : bootBuiltins "len" = some (.builtin "len") := by decide +kernel
theorem bt_str : bootBuiltins "str" = some (.type "str") := by decide +kernel
structure Fc (K : PySem.W.Frag) (mg : Str → Option Value) : Prop where
  b_abs : mg "abs" = none
  b_all : mg "all" = none
  b_bool : mg "bool" = none
  b_int : mg "int" = none
  b_isinstance : mg "isinstance" = none
  b_len : mg "len" = none
  b_range : mg "range" = none
  b_str : mg "str" = none
  k_LETTERS : ∃ t, mg "LETTERS" = some (.str "abcdefghijklmnopqrstuvwxyz" t)
  k_MOST_LETTERS : ∃ t, mg "MOST_LETTERS" = some (.int 5 t)
  f_is_alphabet : ∃ fa fd, mg "is_alphabet" = some (.ref fa) ∧ FunD K "is_alphabet" "is_alphabet" (defArgs st_is_alphabet) (defBody st_is_alphabet) (defScope st_is_alphabet) [] [] fa fd
  f_is_word : ∃ fa fd, mg "is_word" = some (.ref fa) ∧ FunD K "is_word" "is_word" (defArgs st_is_word) (defBody st_is_word) (defScope st_is_word) [] [] fa fd
  f_codes : ∃ fa fd, mg "codes" = some (.ref fa) ∧ FunD K "codes" "codes" (defArgs st_codes) (defBody st_codes) (defScope st_codes) [] [] fa fd
  f_comes_before : ∃ fa fd, mg "comes_before" = some (.ref fa) ∧ FunD K "comes_before" "comes_before" (defArgs st_comes_before) (defBody st_comes_before) (defScope st_comes_before) [] [] fa fd
  f_law_cell : ∃ fa fd, mg "_law_cell" = some (.ref fa) ∧ FunD K "_law_cell" "_law_cell" (defArgs st_law_cell) (defBody st_law_cell) (defScope st_law_cell) [] [] fa fd
  f_law_row : ∃ fa fd, mg "_law_row" = some (.ref fa) ∧ FunD K "_law_row" "_law_row" (defArgs st_law_row) (defBody st_law_row) (defScope st_law_row) [] [] fa fd
  f_law_draw : ∃ fa fd, mg "_law_draw" = some (.ref fa) ∧ FunD K "_law_draw" "_law_draw" (defArgs st_law_draw) (defBody st_law_draw) (defScope st_law_draw) [] [] fa fd
  f_law_words : ∃ fa fd, mg "_law_words" = some (.ref fa) ∧ FunD K "_law_words" "_law_words" (defArgs st_law_words) (defBody st_law_words) (defScope st_law_words) [] [] fa fd
  f_law_word : ∃ fa fd, mg "_law_word" = some (.ref fa) ∧ FunD K "_law_word" "_law_word" (defArgs st_law_word) (defBody st_law_word) (defScope st_law_word) [] [] fa fd
  f_law_key : ∃ fa fd, mg "_law_key" = some (.ref fa) ∧ FunD K "_law_key" "_law_key" (defArgs st_law_key) (defBody st_law_key) (defScope st_law_key) [] [] fa fd
  f_law_good : ∃ fa fd, mg "_law_good" = some (.ref fa) ∧ FunD K "_law_good" "_law_good" (defArgs st_law_good) (defBody st_law_good) (defScope st_law_good) [] [] fa fd
  f_law_is : ∃ fa fd, mg "_law_is" = some (.ref fa) ∧ FunD K "_law_is" "_law_is" (defArgs st_law_is) (defBody st_law_is) (defScope st_law_is) [] [] fa fd
  f_law : ∃ fa fd, mg "law" = some (.ref fa) ∧ FunD K "law" "law" (defArgs st_law) (defBody st_law) (defScope st_law) [] [] fa fd
section
variable {P : Program} {w : World} {K : PySem.W.Frag} {mg : Str → Option Value} {base : Heap}
theorem at_is_alphabet (Z : Fc K mg) {fa : Addr} {fd : FuncData} (F : FunD K "is_alphabet" "is_alphabet" (defArgs st_is_alphabet) (defBody st_is_alphabet) (defScope st_is_alphabet) [] [] fa fd) : FnOk P w K mg base (L2.CX P w) 1 fa fd ["thing"] (spOf (gam P w K) sem_is_alphabet [false]) := by
  refine fn_den F sc_is_alphabet [false] 2 1 [] fun cdv A outer s H E hr => ?_
  exact (dss_cons (ds_if (dt_w (dw_or (dt_not (dt_e rfl (de_isInst (T := "str") ii_str rfl Z.b_isinstance bt_isinstance rfl Z.b_str bt_str (de_p (dp_var 0))))) (dw_or1 (dt_not (dt_chain b_le b_le ob_le ob_le de_int (de_lenP rfl rfl Z.b_len (dp_var 0)) (de_gint rfl Z.k_MOST_LETTERS.choose_spec)))))) (dss_one (ds_ret de_bl)) dss_nil)
    (dss_one (ds_ret (de_callB (c_all rfl) rfl Z.b_all bt_all (de_comp rfl sc_is_alphabet.nd (own := [("letter", 1)]) (di_e rfl (de_p (dp_var 0))) (blkOk_by (show blkC nm_is_alphabet (defScope st_is_alphabet) _ _ = true from by decide +kernel)) (fun _ _ _ _ _ => (dg_nm 1 sc_is_alphabet.nd)) (fun _ _ _ _ _ => dts_nil) (fun _ _ _ _ _ => (de_and (de_inP (b_in (room65 hr)) (de_p (dp_var 1)) (dp_gstr rfl Z.k_LETTERS.choose_spec)) (de_one (de_cmp (s_eq hr.units) (de_count (de_p (dp_var 0)) (de_p (dp_var 1))) de_int)))))))))
theorem ok_is_alphabet (Z : Fc K mg) : OkF P w K mg base (gam P w K) 1 "is_alphabet" ["thing"] sem_is_alphabet [false] := by
  obtain ⟨fa, fd, hm, F⟩ := Z.f_is_alphabet
  exact ⟨fa, fd, hm, F.kp, F.bindsN fun _ _ _ _ _ _ us hl => (match us, hl with | [_], _ => rfl), at_is_alphabet Z F⟩
theorem at_is_word (Z : Fc K mg) {fa : Addr} {fd : FuncData} (F : FunD K "is_word" "is_word" (defArgs st_is_word) (defBody st_is_word) (defScope st_is_word) [] [] fa fd) : FnOk P w K mg base (L2.CX P w) 1 fa fd ["alphabet", "thing"] (spOf (gam P w K) sem_is_word [false, false]) := by
  refine fn_den F sc_is_word [false, false] 3 2 [] fun cdv A outer s H E hr => ?_
  exact (dss_one (ds_ret (de_and (de_isInst (T := "str") ii_str rfl Z.b_isinstance bt_isinstance rfl Z.b_str bt_str (de_p (dp_var 1))) (de_one (de_callB (c_all rfl) rfl Z.b_all bt_all (de_comp rfl sc_is_word.nd (own := [("letter", 2)]) (di_e rfl (de_p (dp_var 1))) (blkOk_by (show blkC nm_is_word (defScope st_is_word) _ _ = true from by decide +kernel)) (fun _ _ _ _ _ => (dg_nm 2 sc_is_word.nd)) (fun _ _ _ _ _ => dts_nil) (fun _ _ _ _ _ => (de_inP (b_in (room65 hr)) (de_p (dp_var 2)) (dp_var 0)))))))))
theorem ok_is_word (Z : Fc K mg) : OkF P w K mg base (gam P w K) 1 "is_word" ["alphabet", "thing"] sem_is_word [false, false] := by
  obtain ⟨fa, fd, hm, F⟩ := Z.f_is_word
  exact ⟨fa, fd, hm, F.kp, F.bindsN fun _ _ _ _ _ _ us hl => (match us, hl with | [_, _], _ => rfl), at_is_word Z F⟩
theorem at_codes (Z : Fc K mg) {fa : Addr} {fd : FuncData} (F : FunD K "codes" "codes" (defArgs st_codes) (defBody st_codes) (defScope st_codes) [] [] fa fd) : FnOk P w K mg base (L2.CX P w) 1 fa fd ["alphabet", "word"] (spOf (gam P w K) sem_codes [false, false]) := by
  refine fn_den F sc_codes [false, false] 3 2 [] fun cdv A outer s H E hr => ?_
  exact (dss_one (ds_ret (de_comp rfl sc_codes.nd (own := [("letter", 2)]) (di_e rfl (de_p (dp_var 1))) (blkOk_by (show blkC nm_codes (defScope st_codes) _ _ = true from by decide +kernel)) (fun _ _ _ _ _ => (dg_nm 2 sc_codes.nd)) (fun _ _ _ _ _ => dts_nil) (fun _ _ _ _ _ => (de_index (room65 hr) (de_p (dp_var 0)) (de_p (dp_var 2)))))))
theorem ok_codes (Z : Fc K mg) : OkF P w K mg base (gam P w K) 1 "codes" ["alphabet", "word"] sem_codes [false, false] := by
  obtain ⟨fa, fd, hm, F⟩ := Z.f_codes
  exact ⟨fa, fd, hm, F.kp, F.bindsN fun _ _ _ _ _ _ us hl => (match us, hl with | [_, _], _ => rfl), at_codes Z F⟩
theorem at_comes_before (Z : Fc K mg) (o_codes : OkF P w K mg base (gam P w K) 1 "codes" ["alphabet", "word"] sem_codes [false, false]) {fa : Addr} {fd : FuncData} (F : FunD K "comes_before" "comes_before" (defArgs st_comes_before) (defBody st_comes_before) (defScope st_comes_before) [] [] fa fd) : FnOk P w K mg base (L2.CX P w) 2 fa fd ["alphabet", "one", "two"] (spOf (gam P w K) sem_comes_before [false, false, false]) := by
  refine fn_den F sc_comes_before [false, false, false] 3 3 [] fun cdv A outer s H E hr => ?_
  exact (dss_cons (ds_if (dt_cmp (s_ne hr.units) ob_ne (de_lenP rfl rfl Z.b_len (dp_var 1)) (de_lenP rfl rfl Z.b_len (dp_var 2))) (dss_one (ds_ret (de_cmp (s_lt hr.units) (de_lenP rfl rfl Z.b_len (dp_var 1)) (de_lenP rfl rfl Z.b_len (dp_var 2))))) dss_nil)
    (dss_one (ds_ret (de_cmp (s_lt hr.units) (de_callF o_codes hr (by decide) (takes_of rfl rfl rfl rfl) rfl (dr_v (de_p (dp_var 0)) (dr_v (de_p (dp_var 1)) dr_nil))) (de_callF o_codes hr (by decide) (takes_of rfl rfl rfl rfl) rfl (dr_v (de_p (dp_var 0)) (dr_v (de_p (dp_var 2)) dr_nil)))))))
theorem ok_comes_before (Z : Fc K mg) (o_codes : OkF P w K mg base (gam P w K) 1 "codes" ["alphabet", "word"] sem_codes [false, false]) : OkF P w K mg base (gam P w K) 2 "comes_before" ["alphabet", "one", "two"] sem_comes_before [false, false, false] := by
  obtain ⟨fa, fd, hm, F⟩ := Z.f_comes_before
  exact ⟨fa, fd, hm, F.kp, F.bindsN fun _ _ _ _ _ _ us hl => (match us, hl with | [_, _, _], _ => rfl), at_comes_before Z o_codes F⟩
theorem at_law_cell (Z : Fc K mg) {fa : Addr} {fd : FuncData} (F : FunD K "_law_cell" "_law_cell" (defArgs st_law_cell) (defBody st_law_cell) (defScope st_law_cell) [] [] fa fd) : FnOk P w K mg base (L2.CX P w) 1 fa fd ["_law_script", "_law_k"] (spOf (gam P w K) sem_law_cell [false, false]) := by
  refine fn_den F sc_law_cell [false, false] 2 2 [] fun cdv A outer s H E hr => ?_
  exact (dss_cons (ds_if (dt_cmp (s_lt hr.units) ob_lt (de_p (dp_var 1)) (de_lenP rfl rfl Z.b_len (dp_var 0))) (dss_one (ds_ret (de_p (dp_ix rfl (dp_var 0) (dp_var 1) (fun _ _ => rfl))))) dss_nil)
    (dss_one (ds_ret de_int)))
theorem ok_law_cell (Z : Fc K mg) : OkF P w K mg base (gam P w K) 1 "_law_cell" ["_law_script", "_law_k"] sem_law_cell [false, false] := by
  obtain ⟨fa, fd, hm, F⟩ := Z.f_law_cell
  exact ⟨fa, fd, hm, F.kp, F.bindsN fun _ _ _ _ _ _ us hl => (match us, hl with | [_, _], _ => rfl), at_law_cell Z F⟩
theorem at_law_row (Z : Fc K mg) (o_law_cell : OkF P w K mg base (gam P w K) 1 "_law_cell" ["_law_script", "_law_k"] sem_law_cell [false, false]) {fa : Addr} {fd : FuncData} (F : FunD K "_law_row" "_law_row" (defArgs st_law_row) (defBody st_law_row) (defScope st_law_row) [] [] fa fd) : FnOk P w K mg base (L2.CX P w) 2 fa fd ["_law_script", "_law_first", "_law_last"] (spOf (gam P w K) sem_law_row [false, false, false]) := by
  refine fn_den F sc_law_row [false, false, false] 7 3 [] fun cdv A outer s H E hr => ?_
  exact (dss_cons (ds_set (de_lst da_nil) (dg_nm 3 sc_law_row.nd))
    (dss_cons (ds_for (passes_of rfl) rfl (di_range2 rfl Z.b_range (de_p (dp_var 1)) (de_p (dp_var 2))) (dg_nm 4 sc_law_row.nd) (dss_cons (ds_set (de_fz (de_callF o_law_cell hr (by decide) (takes_of rfl rfl rfl rfl) rfl (dr_v (de_p (dp_var 0)) (dr_v (de_p (dp_var 4)) dr_nil)))) (dg_nm 5 sc_law_row.nd))
      (dss_cons (ds_set (de_fz (de_bin s_add (de_callB c_abs rfl Z.b_abs bt_abs (de_bin s_mul de_int (de_p (dp_var 5)))) (de_callT c_int rfl Z.b_int bt_int (de_cmp (s_lt hr.units) (de_p (dp_var 5)) de_int)))) (dg_nm 5 sc_law_row.nd))
      (dss_one (ds_if (dt_cmp s_gt ob_gt (de_p (dp_var 5)) (de_bin s_pow de_int de_int)) (dss_one (ds_for (passes_of rfl) rfl (di_range1 rfl Z.b_range de_int) (dg_nm 6 sc_law_row.nd) (dss_one (ds_if (dt_cmp s_gt ob_gt (de_p (dp_var 5)) de_int) (dss_cons (ds_app 3 rfl (de_bin s_mod (de_callT c_int rfl Z.b_int bt_int (de_p (dp_var 5))) de_int))
            (dss_one (ds_set (de_fz (de_bin s_fdiv (de_p (dp_var 5)) de_int)) (dg_nm 5 sc_law_row.nd)))) dss_nil)))) (dss_one (ds_for (passes_of rfl) rfl (di_range1 rfl Z.b_range de_int) (dg_nm 6 sc_law_row.nd) (dss_cons (ds_set (de_fz (de_bin s_mod (de_callT c_int rfl Z.b_int bt_int (de_bin s_add (de_bin s_add (de_bin s_mul (de_p (dp_var 5)) de_int) (de_bin s_mul de_int (de_bin s_add (de_p (dp_var 4)) (de_p (dp_var 6))))) de_int)) de_int)) (dg_nm 5 sc_law_row.nd))
          (dss_one (ds_app 3 rfl (de_bin s_mod (de_callT c_int rfl Z.b_int bt_int (de_bin s_fdiv (de_p (dp_var 5)) de_int)) de_int)))))))))))
    (dss_one (ds_ret (de_frz 3)))))
theorem ok_law_row (Z : Fc K mg) (o_law_cell : OkF P w K mg base (gam P w K) 1 "_law_cell" ["_law_script", "_law_k"] sem_law_cell [false, false]) : OkF P w K mg base (gam P w K) 2 "_law_row" ["_law_script", "_law_first", "_law_last"] sem_law_row [false, false, false] := by
  obtain ⟨fa, fd, hm, F⟩ := Z.f_law_row
  exact ⟨fa, fd, hm, F.kp, F.bindsN fun _ _ _ _ _ _ us hl => (match us, hl with | [_, _, _], _ => rfl), at_law_row Z o_law_cell F⟩
theorem at_law_draw (Z : Fc K mg) {fa : Addr} {fd : FuncData} (F : FunD K "_law_draw" "_law_draw" (defArgs st_law_draw) (defBody st_law_draw) (defScope st_law_draw) [] [] fa fd) : FnOk P w K mg base (L2.CX P w) 1 fa fd ["_law_box", "_law_many"] (spOf (gam P w K) sem_law_draw [true, false]) := by
  refine fn_den F sc_law_draw [true, false] 3 2 [0] fun cdv A outer s H E hr => ?_
  exact (dss_cons (ds_set (de_p (dp_ix rfl (dp_var 0) dp_int (fun _ _ => rfl))) (dg_nm 2 sc_law_draw.nd))
    (dss_cons (ds_setI 0 rfl (de_bin s_add (de_p (dp_var 2)) de_int) de_int)
    (dss_cons (ds_if (dt_cmp (s_lt hr.units) ob_lt (de_p (dp_var 2)) (de_lenP rfl rfl Z.b_len (dp_ix rfl (dp_var 0) dp_int (fun _ _ => rfl)))) (dss_one (ds_ret (de_bin s_mod (de_callT c_int rfl Z.b_int bt_int (de_p (dp_ix rfl (dp_ix rfl (dp_var 0) dp_int (fun _ _ => rfl)) (dp_var 2) (fun _ _ => rfl)))) (de_p (dp_var 1))))) dss_nil)
    (dss_one (ds_ret (de_bin s_mod (de_callT c_int rfl Z.b_int bt_int (de_bin s_add (de_bin s_mul (de_p (dp_var 2)) de_int) de_int)) (de_p (dp_var 1))))))))
theorem ok_law_draw (Z : Fc K mg) : OkF P w K mg base (gam P w K) 1 "_law_draw" ["_law_box", "_law_many"] sem_law_draw [true, false] := by
  obtain ⟨fa, fd, hm, F⟩ := Z.f_law_draw
  exact ⟨fa, fd, hm, F.kp, F.bindsN fun _ _ _ _ _ _ us hl => (match us, hl with | [_, _], _ => rfl), at_law_draw Z F⟩
theorem at_law_words (Z : Fc K mg) {fa : Addr} {fd : FuncData} (F : FunD K "_law_words" "_law_words" (defArgs st_law_words) (defBody st_law_words) (defScope st_law_words) [] [] fa fd) : FnOk P w K mg base (L2.CX P w) 1 fa fd ["_law_alphabet", "_law_most"] (spOf (gam P w K) sem_law_words [false, false]) := by
  refine fn_den F sc_law_words [false, false] 8 2 [] fun cdv A outer s H E hr => ?_
  exact (dss_cons (ds_set (de_fz (de_lst (da_cons de_str da_nil))) (dg_nm 2 sc_law_words.nd))
    (dss_cons (ds_set (de_fz (de_lst (da_cons de_str da_nil))) (dg_nm 3 sc_law_words.nd))
    (dss_cons (ds_for (passes_of rfl) rfl (di_range1 rfl Z.b_range (de_p (dp_var 1))) (dg_nm 4 sc_law_words.nd) (dss_cons (ds_set (de_lst da_nil) (dg_nm 5 sc_law_words.nd))
      (dss_cons (ds_for (passes_of rfl) rfl (di_e rfl (de_p (dp_var 3))) (dg_nm 6 sc_law_words.nd) (dss_one (ds_ext 5 rfl (de_comp rfl sc_law_words.nd (own := [("_law_letter", 7)]) (di_e rfl (de_p (dp_var 0))) (blkOk_by (show blkC nm_law_words (defScope st_law_words) _ _ = true from by decide +kernel)) (fun _ _ _ _ _ => (dg_nm 7 sc_law_words.nd)) (fun _ _ _ _ _ => dts_nil) (fun _ _ _ _ _ => (de_bin s_add (de_p (dp_var 6)) (de_p (dp_var 7))))))))
      (dss_cons (ds_set (de_frz 5) (dg_nm 3 sc_law_words.nd))
      (dss_one (ds_set (de_fz (de_bin s_add (de_p (dp_var 2)) (de_p (dp_var 3)))) (dg_nm 2 sc_law_words.nd)))))))
    (dss_one (ds_ret (de_p (dp_var 2)))))))
theorem ok_law_words (Z : Fc K mg) : OkF P w K mg base (gam P w K) 1 "_law_words" ["_law_alphabet", "_law_most"] sem_law_words [false, false] := by
  obtain ⟨fa, fd, hm, F⟩ := Z.f_law_words
  exact ⟨fa, fd, hm, F.kp, F.bindsN fun _ _ _ _ _ _ us hl => (match us, hl with | [_, _], _ => rfl), at_law_words Z F⟩
theorem at_law_word (Z : Fc K mg) (o_law_draw : OkF P w K mg base (gam P w K) 1 "_law_draw" ["_law_box", "_law_many"] sem_law_draw [true, false]) {fa : Addr} {fd : FuncData} (F : FunD K "_law_word" "_law_word" (defArgs st_law_word) (defBody st_law_word) (defScope st_law_word) [] [] fa fd) : FnOk P w K mg base (L2.CX P w) 2 fa fd ["_law_box", "_law_alphabet", "_law_most"] (spOf (gam P w K) sem_law_word [true, false, false]) := by
  refine fn_den F sc_law_word [true, false, false] 4 3 [0] fun cdv A outer s H E hr => ?_
  exact (dss_one (ds_ret (de_join de_str (de_comp rfl sc_law_word.nd (own := [("_law_k", 3)]) (di_range1 rfl Z.b_range (de_callF o_law_draw hr (by decide) (takes_of rfl rfl rfl rfl) rfl (dr_io 0 (dr_v (de_bin s_add (de_p (dp_var 2)) de_int) dr_nil)))) (blkOk_by (show blkC nm_law_word (defScope st_law_word) _ _ = true from by decide +kernel)) (fun _ _ _ _ _ => (dg_nm 3 sc_law_word.nd)) (fun _ _ _ _ _ => dts_nil) (fun _ _ _ _ _ => (de_item rfl (de_p (dp_var 1)) (de_callF o_law_draw hr (by decide) takes0 rfl (dr_io 0 (dr_v (de_lenP rfl rfl Z.b_len (dp_var 1)) dr_nil))) (fun _ _ => rfl)))))))
theorem ok_law_word (Z : Fc K mg) (o_law_draw : OkF P w K mg base (gam P w K) 1 "_law_draw" ["_law_box", "_law_many"] sem_law_draw [true, false]) : OkF P w K mg base (gam P w K) 2 "_law_word" ["_law_box", "_law_alphabet", "_law_most"] sem_law_word [true, false, false] := by
  obtain ⟨fa, fd, hm, F⟩ := Z.f_law_word
  exact ⟨fa, fd, hm, F.kp, F.bindsN fun _ _ _ _ _ _ us hl => (match us, hl with | [_, _, _], _ => rfl), at_law_word Z o_law_draw F⟩
theorem at_law_key (Z : Fc K mg) {fa : Addr} {fd : FuncData} (F : FunD K "_law_key" "_law_key" (defArgs st_law_key) (defBody st_law_key) (defScope st_law_key) [] [] fa fd) : FnOk P w K mg base (L2.CX P w) 1 fa fd ["_law_alphabet", "_law_word_here"] (spOf (gam P w K) sem_law_key [false, false]) := by
  refine fn_den F sc_law_key [false, false] 3 2 [] fun cdv A outer s H E hr => ?_
  exact (dss_one (ds_ret (de_tup (da_cons (de_lenP rfl rfl Z.b_len (dp_var 1)) (da_cons (de_comp rfl sc_law_key.nd (own := [("_law_letter", 2)]) (di_e rfl (de_p (dp_var 1))) (blkOk_by (show blkC nm_law_key (defScope st_law_key) _ _ = true from by decide +kernel)) (fun _ _ _ _ _ => (dg_nm 2 sc_law_key.nd)) (fun _ _ _ _ _ => dts_nil) (fun _ _ _ _ _ => (de_index (room65 hr) (de_p (dp_var 0)) (de_p (dp_var 2))))) da_nil)))))
theorem ok_law_key (Z : Fc K mg) : OkF P w K mg base (gam P w K) 1 "_law_key" ["_law_alphabet", "_law_word_here"] sem_law_key [false, false] := by
  obtain ⟨fa, fd, hm, F⟩ := Z.f_law_key
  exact ⟨fa, fd, hm, F.kp, F.bindsN fun _ _ _ _ _ _ us hl => (match us, hl with | [_, _], _ => rfl), at_law_key Z F⟩
theorem at_law_good (Z : Fc K mg) {fa : Addr} {fd : FuncData} (F : FunD K "_law_good" "_law_good" (defArgs st_law_good) (defBody st_law_good) (defScope st_law_good) [] [] fa fd) : FnOk P w K mg base (L2.CX P w) 1 fa fd ["_law_thing"] (spOf (gam P w K) sem_law_good [false]) := by
  refine fn_den F sc_law_good [false] 2 1 [] fun cdv A outer s H E hr => ?_
  exact (dss_cons (ds_if (dt_w (dw_or (dt_not (dt_e rfl (de_isInst (T := "str") ii_str rfl Z.b_isinstance bt_isinstance rfl Z.b_str bt_str (de_p (dp_var 0))))) (dw_or (dt_cmp (s_lt hr.units) ob_lt (de_lenP rfl rfl Z.b_len (dp_var 0)) de_int) (dw_or1 (dt_cmp s_gt ob_gt (de_lenP rfl rfl Z.b_len (dp_var 0)) de_int))))) (dss_one (ds_ret de_bl)) dss_nil)
    (dss_cons (ds_for (passes_of rfl) rfl (di_range1 rfl Z.b_range (de_lenP rfl rfl Z.b_len (dp_var 0))) (dg_nm 1 sc_law_good.nd) (dss_one (ds_if (dt_w (dw_or (dt_cmp (s_notin (room65 hr)) ob_notin (de_p (dp_ix rfl (dp_var 0) (dp_var 1) (fun _ _ => rfl))) de_str) (dw_or1 (dt_cmp (s_in (room65 hr)) ob_in (de_p (dp_ix rfl (dp_var 0) (dp_var 1) (fun _ _ => rfl))) (de_slice (de_p (dp_var 0)) do_none (do_some (de_p (dp_var 1)))))))) (dss_one (ds_ret de_bl)) dss_nil)))
    (dss_one (ds_ret de_bl))))
theorem ok_law_good (Z : Fc K mg) : OkF P w K mg base (gam P w K) 1 "_law_good" ["_law_thing"] sem_law_good [false] := by
  obtain ⟨fa, fd, hm, F⟩ := Z.f_law_good
  exact ⟨fa, fd, hm, F.kp, F.bindsN fun _ _ _ _ _ _ us hl => (match us, hl with | [_], _ => rfl), at_law_good Z F⟩
theorem at_law_is (Z : Fc K mg) {fa : Addr} {fd : FuncData} (F : FunD K "_law_is" "_law_is" (defArgs st_law_is) (defBody st_law_is) (defScope st_law_is) [] [] fa fd) : FnOk P w K mg base (L2.CX P w) 1 fa fd ["_law_told", "_law_due"] (spOf (gam P w K) sem_law_is [false, false]) := by
  refine fn_den F sc_law_is [false, false] 2 2 [] fun cdv A outer s H E hr => ?_
  exact (dss_one (ds_ret (de_and (de_isInst (T := "bool") ii_bool rfl Z.b_isinstance bt_isinstance rfl Z.b_bool bt_bool (de_p (dp_var 0))) (de_one (de_cmp (s_eq hr.units) (de_p (dp_var 0)) (de_p (dp_var 1)))))))
theorem ok_law_is (Z : Fc K mg) : OkF P w K mg base (gam P w K) 1 "_law_is" ["_law_told", "_law_due"] sem_law_is [false, false] := by
  obtain ⟨fa, fd, hm, F⟩ := Z.f_law_is
  exact ⟨fa, fd, hm, F.kp, F.bindsN fun _ _ _ _ _ _ us hl => (match us, hl with | [_, _], _ => rfl), at_law_is Z F⟩
theorem at_law (Z : Fc K mg) (o_law_row : OkF P w K mg base (gam P w K) 2 "_law_row" ["_law_script", "_law_first", "_law_last"] sem_law_row [false, false, false]) (o_law_draw : OkF P w K mg base (gam P w K) 1 "_law_draw" ["_law_box", "_law_many"] sem_law_draw [true, false]) (o_is_alphabet : OkF P w K mg base (gam P w K) 1 "is_alphabet" ["thing"] sem_is_alphabet [false]) (o_law_good : OkF P w K mg base (gam P w K) 1 "_law_good" ["_law_thing"] sem_law_good [false]) (o_law_is : OkF P w K mg base (gam P w K) 1 "_law_is" ["_law_told", "_law_due"] sem_law_is [false, false]) (o_law_word : OkF P w K mg base (gam P w K) 2 "_law_word" ["_law_box", "_law_alphabet", "_law_most"] sem_law_word [true, false, false]) (o_is_word : OkF P w K mg base (gam P w K) 1 "is_word" ["alphabet", "thing"] sem_is_word [false, false]) (o_comes_before : OkF P w K mg base (gam P w K) 2 "comes_before" ["alphabet", "one", "two"] sem_comes_before [false, false, false]) (o_law_key : OkF P w K mg base (gam P w K) 1 "_law_key" ["_law_alphabet", "_law_word_here"] sem_law_key [false, false]) {fa : Addr} {fd : FuncData} (F : FunD K "law" "law" (defArgs st_law) (defBody st_law) (defScope st_law) [] [] fa fd) : FnOk P w K mg base (L2.CX P w) 3 fa fd ["_law_script"] (spOf (gam P w K) sem_law [false]) := by
  refine fn_den F sc_law [false] 10 1 [] fun cdv A outer s H E hr => ?_
  exact (dss_cons (ds_set (de_lst (da_cons (de_callF o_law_row hr (by decide) (takes_of rfl rfl rfl rfl) rfl (dr_v (de_p (dp_var 0)) (dr_v de_int (dr_v de_int dr_nil)))) (da_cons de_int da_nil))) (dg_nm 1 sc_law.nd))
    (dss_cons (ds_set (de_lst (da_cons de_str (da_cons de_str (da_cons de_str (da_cons de_str (da_cons de_str (da_cons de_str (da_cons de_str (da_cons de_str (da_cons de_int (da_cons de_non (da_cons (de_lst (da_cons de_str da_nil)) (da_cons de_str da_nil))))))))))))) (dg_nm 2 sc_law.nd))
    (dss_cons (ds_for (passes_of rfl) rfl (di_range1 rfl Z.b_range de_int) (dg_nm 3 sc_law.nd) (dss_one (ds_app 2 rfl (de_join de_str (de_comp rfl sc_law.nd (own := [("_law_k", 9)]) (di_range1 rfl Z.b_range (de_bin s_add de_int (de_callF o_law_draw hr (by decide) (takes_of rfl rfl rfl rfl) rfl (dr_io 1 (dr_v de_int dr_nil))))) (blkOk_by (show blkC nm_law (defScope st_law) _ _ = true from by decide +kernel)) (fun _ _ _ _ _ => (dg_nm 9 sc_law.nd)) (fun _ _ _ _ _ => dts_nil) (fun _ _ _ _ _ => (de_item rfl de_str (de_callF o_law_draw hr (by decide) takes0 rfl (dr_io 1 (dr_v de_int dr_nil))) (fun _ _ => rfl))))))))
    (dss_cons (ds_for (passes_of rfl) rfl (di_e rfl (de_frz 2)) (dg_nm 4 sc_law.nd) (dss_one (ds_if (dt_not (dt_e rfl (de_callF o_law_is hr (by decide) (takes_of rfl rfl rfl rfl) rfl (dr_v (de_callF o_is_alphabet hr (by decide) (takes_of rfl rfl rfl rfl) rfl (dr_v (de_p (dp_var 4)) dr_nil)) (dr_v (de_callF o_law_good hr (by decide) (takes_of rfl rfl rfl rfl) rfl (dr_v (de_p (dp_var 4)) dr_nil)) dr_nil))))) (dss_one (ds_ret de_bl)) dss_nil)))
    (dss_cons (ds_set (de_item rfl (de_lst (da_cons de_str (da_cons de_str (da_cons de_str (da_cons de_str da_nil))))) (de_callF o_law_draw hr (by decide) (takes_of rfl rfl rfl rfl) rfl (dr_io 1 (dr_v de_int dr_nil))) (fun _ _ => rfl)) (dg_nm 5 sc_law.nd))
    (dss_cons (ds_setLc rfl sc_law.nd (own := [("_law_k", 9)]) (di_range1 rfl Z.b_range de_int) (blkOk_by (show blkC nm_law (defScope st_law) _ _ = true from by decide +kernel)) (fun _ _ _ _ _ => (dg_nm 9 sc_law.nd)) (fun _ _ _ _ _ => dts_nil) (fun _ _ _ _ _ => (de_callF o_law_word hr (by decide) takes0 rfl (dr_io 1 (dr_v (de_p (dp_var 5)) (dr_v de_int dr_nil))))) (sw_true rfl rfl rfl (by decide +kernel)) (fun q => fz_imp q))
    (dss_cons (ds_for (passes_of rfl) rfl (di_e rfl (de_p (dp_var 6))) (dg_nm 7 sc_law.nd) (dss_cons (ds_if (dt_w (dw_or (dt_not (dt_e rfl (de_callF o_law_is hr (by decide) (takes_of rfl rfl rfl rfl) rfl (dr_v (de_callF o_is_word hr (by decide) (takes_of rfl rfl rfl rfl) rfl (dr_v (de_p (dp_var 5)) (dr_v (de_p (dp_var 7)) dr_nil))) (dr_v de_bl dr_nil))))) (dw_or1 (dt_not (dt_e rfl (de_callF o_law_is hr (by decide) (takes_of rfl rfl rfl rfl) rfl (dr_v (de_callF o_is_word hr (by decide) (takes_of rfl rfl rfl rfl) rfl (dr_v (de_p (dp_var 5)) (dr_v (de_bin s_add (de_p (dp_var 7)) de_str) dr_nil))) (dr_v de_bl dr_nil)))))))) (dss_one (ds_ret de_bl)) dss_nil)
      (dss_one (ds_for (passes_of rfl) rfl (di_e rfl (de_p (dp_var 6))) (dg_nm 8 sc_law.nd) (dss_one (ds_if (dt_not (dt_e rfl (de_callF o_law_is hr (by decide) (takes_of rfl rfl rfl rfl) rfl (dr_v (de_callF o_comes_before hr (by decide) (takes_of rfl rfl rfl rfl) rfl (dr_v (de_p (dp_var 5)) (dr_v (de_p (dp_var 7)) (dr_v (de_p (dp_var 8)) dr_nil)))) (dr_v (de_cmp (s_lt hr.units) (de_callF o_law_key hr (by decide) (takes_of rfl rfl rfl rfl) rfl (dr_v (de_p (dp_var 5)) (dr_v (de_p (dp_var 7)) dr_nil))) (de_callF o_law_key hr (by decide) (takes_of rfl rfl rfl rfl) rfl (dr_v (de_p (dp_var 5)) (dr_v (de_p (dp_var 8)) dr_nil)))) dr_nil))))) (dss_one (ds_ret de_bl)) dss_nil))))))
    (dss_one (ds_ret (de_and (de_cmp s_is (de_callF o_is_word hr (by decide) (takes_of rfl rfl rfl rfl) rfl (dr_v (de_p (dp_var 5)) (dr_v de_int dr_nil))) de_bl) (de_one (de_cmp s_is (de_callF o_is_word hr (by decide) (takes_of rfl rfl rfl rfl) rfl (dr_v (de_p (dp_var 5)) (dr_v (de_lst (da_cons (de_p (dp_var 5)) da_nil)) dr_nil))) de_bl))))))))))))
theorem law_all (Z : Fc K mg) {fa : Addr} {fd : FuncData} (F : FunD K "law" "law" (defArgs st_law) (defBody st_law) (defScope st_law) [] [] fa fd) : FnOk P w K mg base (L2.CX P w) 3 fa fd ["_law_script"] (spOf (gam P w K) sem_law [false]) := by
  have o_is_alphabet : OkF P w K mg base (gam P w K) 1 "is_alphabet" ["thing"] sem_is_alphabet [false] := ok_is_alphabet Z
  have o_is_word : OkF P w K mg base (gam P w K) 1 "is_word" ["alphabet", "thing"] sem_is_word [false, false] := ok_is_word Z
  have o_codes : OkF P w K mg base (gam P w K) 1 "codes" ["alphabet", "word"] sem_codes [false, false] := ok_codes Z
  have o_comes_before : OkF P w K mg base (gam P w K) 2 "comes_before" ["alphabet", "one", "two"] sem_comes_before [false, false, false] := ok_comes_before Z o_codes
  have o_law_cell : OkF P w K mg base (gam P w K) 1 "_law_cell" ["_law_script", "_law_k"] sem_law_cell [false, false] := ok_law_cell Z
  have o_law_row : OkF P w K mg base (gam P w K) 2 "_law_row" ["_law_script", "_law_first", "_law_last"] sem_law_row [false, false, false] := ok_law_row Z o_law_cell
  have o_law_draw : OkF P w K mg base (gam P w K) 1 "_law_draw" ["_law_box", "_law_many"] sem_law_draw [true, false] := ok_law_draw Z
  have o_law_words : OkF P w K mg base (gam P w K) 1 "_law_words" ["_law_alphabet", "_law_most"] sem_law_words [false, false] := ok_law_words Z
  have o_law_word : OkF P w K mg base (gam P w K) 2 "_law_word" ["_law_box", "_law_alphabet", "_law_most"] sem_law_word [true, false, false] := ok_law_word Z o_law_draw
  have o_law_key : OkF P w K mg base (gam P w K) 1 "_law_key" ["_law_alphabet", "_law_word_here"] sem_law_key [false, false] := ok_law_key Z
  have o_law_good : OkF P w K mg base (gam P w K) 1 "_law_good" ["_law_thing"] sem_law_good [false] := ok_law_good Z
  have o_law_is : OkF P w K mg base (gam P w K) 1 "_law_is" ["_law_told", "_law_due"] sem_law_is [false, false] := ok_law_is Z
  exact at_law Z o_law_row o_law_draw o_is_alphabet o_law_good o_law_is o_law_word o_is_word o_comes_before o_law_key F
end
def d_is_alphabet : He.DefD := ⟨("is_alphabet", none), "is_alphabet", "is_alphabet", defArgs st_is_alphabet, defBody st_is_alphabet, defScope st_is_alphabet, [], []⟩
def d_is_word : He.DefD := ⟨("is_word", none), "is_word", "is_word", defArgs st_is_word, defBody st_is_word, defScope st_is_word, [], []⟩
def d_codes : He.DefD := ⟨("codes", none), "codes", "codes", defArgs st_codes, defBody st_codes, defScope st_codes, [], []⟩
def d_comes_before : He.DefD := ⟨("comes_before", none), "comes_before", "comes_before", defArgs st_comes_before, defBody st_comes_before, defScope st_comes_before, [], []⟩
def d_law_cell : He.DefD := ⟨("_law_cell", none), "_law_cell", "_law_cell", defArgs st_law_cell, defBody st_law_cell, defScope st_law_cell, [], []⟩
def d_law_row : He.DefD := ⟨("_law_row", none), "_law_row", "_law_row", defArgs st_law_row, defBody st_law_row, defScope st_law_row, [], []⟩
def d_law_draw : He.DefD := ⟨("_law_draw", none), "_law_draw", "_law_draw", defArgs st_law_draw, defBody st_law_draw, defScope st_law_draw, [], []⟩
def d_law_words : He.DefD := ⟨("_law_words", none), "_law_words", "_law_words", defArgs st_law_words, defBody st_law_words, defScope st_law_words, [], []⟩
def d_law_word : He.DefD := ⟨("_law_word", none), "_law_word", "_law_word", defArgs st_law_word, defBody st_law_word, defScope st_law_word, [], []⟩
def d_law_key : He.DefD := ⟨("_law_key", none), "_law_key", "_law_key", defArgs st_law_key, defBody st_law_key, defScope st_law_key, [], []⟩
def d_law_good : He.DefD := ⟨("_law_good", none), "_law_good", "_law_good", defArgs st_law_good, defBody st_law_good, defScope st_law_good, [], []⟩
def d_law_is : He.DefD := ⟨("_law_is", none), "_law_is", "_law_is", defArgs st_law_is, defBody st_law_is, defScope st_law_is, [], []⟩
def d_law : He.DefD := ⟨("law", none), "law", "law", defArgs st_law, defBody st_law, defScope st_law, [], []⟩
def hfn : List He.DefD := [d_is_alphabet, d_is_word, d_codes, d_comes_before, d_law_cell, d_law_row, d_law_draw, d_law_words, d_law_word, d_law_key, d_law_good, d_law_is, d_law]
def hfa : List He.Fa := [.glo "is_alphabet", .glo "is_word", .glo "codes", .glo "comes_before", .glo "_law_cell", .glo "_law_row", .glo "_law_draw", .glo "_law_words", .glo "_law_word", .glo "_law_key", .glo "_law_good", .glo "_law_is", .glo "law", .free "abs", .free "all", .free "bool", .free "int", .free "isinstance", .free "len", .free "range", .free "str", .str "LETTERS" "abcdefghijklmnopqrstuvwxyz", .int "MOST_LETTERS" 5]
theorem fc_of {K : PySem.W.Frag} {h : Heap} {mg : Str → Option Value} (X : K.In h) (G : h.Ns mainGlobals mg) (c : He.SaysD hfa hfn K) : Fc K mg where
  b_abs := He.free_ok X G (c.fact 13 (f := .free "abs") rfl)
  b_all := He.free_ok X G (c.fact 14 (f := .free "all") rfl)
  b_bool := He.free_ok X G (c.fact 15 (f := .free "bool") rfl)
  b_int := He.free_ok X G (c.fact 16 (f := .free "int") rfl)
  b_isinstance := He.free_ok X G (c.fact 17 (f := .free "isinstance") rfl)
  b_len := He.free_ok X G (c.fact 18 (f := .free "len") rfl)
  b_range := He.free_ok X G (c.fact 19 (f := .free "range") rfl)
  b_str := He.free_ok X G (c.fact 20 (f := .free "str") rfl)
  k_LETTERS := He.str_ok X G (c.fact 21 (f := .str "LETTERS" "abcdefghijklmnopqrstuvwxyz") rfl)
  k_MOST_LETTERS := He.int_ok X G (c.fact 22 (f := .int "MOST_LETTERS" 5) rfl)
  f_is_alphabet := (c.def_ 0 (d := d_is_alphabet) rfl).elim fun fd F => ⟨_, fd, He.glo_ok X G (c.fact 0 (f := .glo "is_alphabet") rfl), F⟩
  f_is_word := (c.def_ 1 (d := d_is_word) rfl).elim fun fd F => ⟨_, fd, He.glo_ok X G (c.fact 1 (f := .glo "is_word") rfl), F⟩
  f_codes := (c.def_ 2 (d := d_codes) rfl).elim fun fd F => ⟨_, fd, He.glo_ok X G (c.fact 2 (f := .glo "codes") rfl), F⟩
  f_comes_before := (c.def_ 3 (d := d_comes_before) rfl).elim fun fd F => ⟨_, fd, He.glo_ok X G (c.fact 3 (f := .glo "comes_before") rfl), F⟩
  f_law_cell := (c.def_ 4 (d := d_law_cell) rfl).elim fun fd F => ⟨_, fd, He.glo_ok X G (c.fact 4 (f := .glo "_law_cell") rfl), F⟩
  f_law_row := (c.def_ 5 (d := d_law_row) rfl).elim fun fd F => ⟨_, fd, He.glo_ok X G (c.fact 5 (f := .glo "_law_row") rfl), F⟩
  f_law_draw := (c.def_ 6 (d := d_law_draw) rfl).elim fun fd F => ⟨_, fd, He.glo_ok X G (c.fact 6 (f := .glo "_law_draw") rfl), F⟩
  f_law_words := (c.def_ 7 (d := d_law_words) rfl).elim fun fd F => ⟨_, fd, He.glo_ok X G (c.fact 7 (f := .glo "_law_words") rfl), F⟩
  f_law_word := (c.def_ 8 (d := d_law_word) rfl).elim fun fd F => ⟨_, fd, He.glo_ok X G (c.fact 8 (f := .glo "_law_word") rfl), F⟩
  f_law_key := (c.def_ 9 (d := d_law_key) rfl).elim fun fd F => ⟨_, fd, He.glo_ok X G (c.fact 9 (f := .glo "_law_key") rfl), F⟩
  f_law_good := (c.def_ 10 (d := d_law_good) rfl).elim fun fd F => ⟨_, fd, He.glo_ok X G (c.fact 10 (f := .glo "_law_good") rfl), F⟩
  f_law_is := (c.def_ 11 (d := d_law_is) rfl).elim fun fd F => ⟨_, fd, He.glo_ok X G (c.fact 11 (f := .glo "_law_is") rfl), F⟩
  f_law := (c.def_ 12 (d := d_law) rfl).elim fun fd F => ⟨_, fd, He.glo_ok X G (c.fact 12 (f := .glo "law") rfl), F⟩
abbrev hR : PySem.W.OpenRow := PySem.W.OpenLaw.row PySem.Challenge.rw_foreaft_k01_words
abbrev hk : PySem.W.Hook := He.hookD 4 hfa hfn
def hob (s : PySem.W.SharedT) : He.AlD := He.obsDG 4 hfa hfn (HandSHeadRun.getT s)
theorem hob_eq (s : PySem.W.SharedT) : hob s = hk.obs s.abs := He.obsDG_eq (HandSHeadRun.getT_eq s)
def hnames : List PySem.Str := (["__name__", "LETTERS", "MOST_LETTERS", "is_alphabet", "is_word", "codes", "comes_before", "_law_cell", "_law_row", "_law_draw", "_law_words", "_law_word", "_law_key", "_law_good", "_law_is"] : List PySem.Str)
theorem hrun (w : World) : HandSHeadRun.RunEq hR (PySem.W.view hR.prog [16]) hk hob 4000 hnames w := by
  intro os
  kernel_rfl
end FA
open PySem PySem.W PySem.Calls PyProof.Rows
theorem PySem.Challenge.cw_foreaft_k01_words_holds : PySem.Challenge.rw_foreaft_k01_words.Holds := by
  w_on; o_law
  refine HandSHeadRun.head_any (r := OpenLaw.row PySem.Challenge.rw_foreaft_k01_words) (q := view (OpenLaw.row PySem.Challenge.rw_foreaft_k01_words).prog [16]) (H := FA.hk) (ob := FA.hob) (M := 4000) (loose := FA.hnames) (d := HandSHeadRun.topDef (OpenLaw.row PySem.Challenge.rw_foreaft_k01_words).prog 16) (kwd := []) FA.hob_eq
    (by kernel_rfl) (fun s => by kernel_rfl) FA.hrun (by kernel_rfl) (by kernel_rfl) (by kernel_rfl) (by rfl) (by first | assumption | decide +kernel) (by decide +kernel) ⟨rfl, rfl, rfl, rfl, rfl, by decide +kernel⟩ ?hw ?hc
  case hw => w_witness2
  case hc =>
    refine FA.walk_ofW (l := PySem.Challenge.rw_foreaft_k01_words) (n := 63) (k := 3) (x := "_law_script") (CX := fun w => L2.CX (PySem.Challenge.rw_foreaft_k01_words).prog w) rfl (by decide) (by kernel_rfl) ⟨rfl, by decide, by decide⟩ ?F (fun _ _ _ _ _ z => FA.cx_none z)
    intro w mg fa h Y G hmg0
    obtain ⟨K, KX, c⟩ := Y
    have hmg : mg ("law" : PySem.Str) = some (.ref fa) := by
      have e : (HandSHeadRun.topDef (OpenLaw.row PySem.Challenge.rw_foreaft_k01_words).prog 16).name = ("law" : PySem.Str) := by kernel_rfl
      rw [← e]
      exact hmg0
    have Z := FA.fc_of KX G c
    obtain ⟨fa', fd, hm, F⟩ := Z.f_law
    rw [hmg] at hm
    cases hm
    have b := L2.FunD.bindsA (ps := ["_law_script"]) F fun _ _ _ _ _ _ us hl => (match us, hl with | [_], _ => rfl)
    exact ⟨K, fd, _, KX, fun s v => b s [v] rfl, fun H a ns hl _ hS => FA.law_sp FA.law_true H a ns hl hS, fun base _ _ => FA.law_all Z F⟩
