import PyProof.Rows.All
import Wide.All
import OpenK.AllK
import Wide.FinOn
import KE.KStateDown
import HandS.Head0
import HandS.Head1
import HandS.Head2
import HandS.HeadEnd
import HandS.HeadHook1
import HandS.HeadHook2
import HandS.ForMost
import HandS.IsInst
import HandS.Style
import HandS.Replace
import HandS.Exc
import HandS.TupAny
import HandS.Deep
import HandS.StrMore
import KE.LtData
import HandS.TupMul
import PyProof.StrLawsIn
import HandS.ExcOwn
import HandS.WordsExc
import HandS.Defaults
import HandS.Iter
import KE.KDictZip
import KE.KItemsList
import PyProof.Rows.StrRev
import KE.KeyNested
import KE.KDictKeyed
import KE.KDictDisplayH
import HandS.Small
import KE.GoesEnum
import KE.KExcSuper
import KE.KSuper
import HandS.ExcInit
import HandS.ExcCtx
import HandS.ExcField
import HandS.ExcIs
import KE.KExcIs
import HandS.Codes
import PyProof.StrOps2
import KE.SortData
import PyProof.Rows.SortWalk
import HandS.DictComp
import KE.KDictCopyH
import PyProof.DictTruth
import HandS.Conv
import HandS.Dict
import KE.KDictWalk
import HandS.SetKeys
import HandS.TupSets
import KE.DataMinMax
import PyProof.Claim2Refuses
import HandS.TryOnly
import HandS.CallSlots
import PySem.Challenge.RW_foreaft_k40_what_patterns_describe
set_option Elab.async false
set_option linter.all false
set_option autoImplicit false
set_option maxRecDepth 100000
set_option maxHeartbeats 0
namespace FA
/-- frozen data -/
inductive D where
  | non | bl (b : Bool) | int (i : Int) | str (s : List Nat)
  | lst (ds : List D) | tup (ds : List D) | dic (kvs : List (D × D)) | ins (c : String) (fs : List (String × D))
  | scr (ns : List Int)
  deriving Repr, Inhabited
/-- owned trees -/
inductive O where
  | fz (d : D) | lst (os : List O) | tup (os : List O) | dic (kos : List (D × O)) | ins (c : String) (fs : List (String × O))
  deriving Repr, Inhabited
mutual
def O.fr : O → D
  | .fz d => d
  | .lst os => .lst (frs os)
  | .tup os => .tup (frs os)
  | .dic kos => .dic (frk kos)
  | .ins c fs => .ins c (frf fs)
def frs : List O → List D
  | [] => []
  | o :: r => o.fr :: frs r
def frk : List (D × O) → List (D × D)
  | [] => []
  | (k, o) :: r => (k, o.fr) :: frk r
def frf : List (String × O) → List (String × D)
  | [] => []
  | (k, o) :: r => (k, o.fr) :: frf r
end
abbrev Env := List (Option O)
inductive R (α : Type) where
  | ok (a : α) (ρ : Env)
  | exc (x : String) (ds : List D) (ρ : Env)
  | st
  deriving Repr
def R.bind {α β : Type} : R α → (α → Env → R β) → R β
  | .ok a ρ, f => f a ρ
  | .exc x ds ρ, _ => .exc x ds ρ
  | .st, _ => .st
def ofOpt {α : Type} : Option α → Env → R α
  | some a, ρ => .ok a ρ
  | none, _ => .st
/-- nothing may be raised here -/
def R.ne {α : Type} : R α → R α
  | .exc _ _ _ => .st
  | r => r
inductive Flow where
  | nx | brk | ret (o : O)
  deriving Repr
abbrev Px := Env → Option O
abbrev Ex := Env → R O
abbrev Tx := Env → R Bool
abbrev Itx := Env → R (List D)
abbrev Stx := Env → R Flow
abbrev Lx := Env → Option (Nat × List Nat)
/-- what a def does: from its arguments to its value and what becomes of the borrowed arguments -/
abbrev FSem := List O → R O
def line : Nat := 16777216
mutual
/-- Python's == on plain data -/
def eqv : D → D → Bool
  | .non, .non => true
  | .bl a, .bl b => a == b
  | .int a, .int b => a == b
  | .bl a, .int b => (if a then 1 else 0) == b
  | .int a, .bl b => a == (if b then 1 else 0)
  | .str a, .str b => a == b
  | .lst a, .lst b => eqvs a b
  | .tup a, .tup b => eqvs a b
  | _, _ => false
def eqvs : List D → List D → Bool
  | [], [] => true
  | a :: r, b :: s => eqv a b && eqvs r s
  | _, _ => false
end
/-- none, bools, ints, texts -/
def flatD : D → Bool
  | .non => true
  | .bl _ => true
  | .int _ => true
  | .str _ => true
  | _ => false
def strOkD (s : List Nat) : Bool := s.all fun c => decide (c < 1114112)
/-- none, bools, ints, texts, lists and tuples of these, not too deep -/
def plainN : Nat → D → Bool
  | _, .non => true
  | _, .bl _ => true
  | _, .int _ => true
  | _, .str s => strOkD s
  | n + 1, .lst ds => ds.all (plainN n)
  | n + 1, .tup ds => ds.all (plainN n)
  | _, _ => false
def plain (d : D) : Bool := plainN 60 d
def plains (ds : List D) : Bool := ds.all plain
/-- == may be asked of them -/
def eqOk (a b : D) : Bool := (flatD a && flatD b) || (plain a && plain b)
def eqsOk (x : D) (ds : List D) : Bool := (flatD x && ds.all flatD) || (plain x && plains ds)
mutual
/-- the two can be compared, place by place -/
def alikeD : D → D → Bool
  | .non, .non => true
  | .bl _, .bl _ => true
  | .int _, .int _ => true
  | .str _, .str _ => true
  | .lst a, .lst b => alikeDs a b
  | .tup a, .tup b => alikeDs a b
  | _, _ => false
def alikeDs : List D → List D → Bool
  | a :: r, b :: s => alikeD a b && alikeDs r s
  | [], _ => true
  | _ :: _, [] => true
end
mutual
/-- Python's < upon such -/
def ltB : D → D → Bool
  | .bl a, .bl b => !a && b
  | .int a, .int b => decide (a < b)
  | .str a, .str b => decide (a < b)
  | .tup a, .tup b => ltBs a b
  | .lst a, .lst b => ltBs a b
  | _, _ => false
def ltBs : List D → List D → Bool
  | _, [] => false
  | [], _ :: _ => true
  | a :: r, b :: s => if eqv a b then ltBs r s else ltB a b
end
def notNon : D → Bool
  | .non => false
  | _ => true
def ltOk (a b : D) : Bool := plain a && plain b && alikeD a b && notNon a
def ltD (a b : D) : Option Bool := if ltOk a b then some (ltB a b) else none
def boolO (b : Bool) : O := .fz (.bl b)
def intO (i : Int) : O := .fz (.int i)
def idx (n : Nat) (i : Int) : Option Nat :=
  if 0 ≤ i then (if i.toNat < n then some i.toNat else none) else (if (-i).toNat ≤ n then some (n - (-i).toNat) else none)
def getK {α : Type} : List (D × α) → D → Option α
  | [], _ => none
  | (k, a) :: r, d => if eqv k d then some a else getK r d
def putK {α : Type} : List (D × α) → D → α → List (D × α)
  | [], d, a => [(d, a)]
  | (k, b) :: r, d, a => if eqv k d then (k, a) :: r else (k, b) :: putK r d a
def getF {α : Type} : List (String × α) → String → Option α
  | [], _ => none
  | (k, a) :: r, d => if d = k then some a else getF r d
def putF {α : Type} : List (String × α) → String → α → List (String × α)
  | [], d, a => [(d, a)]
  | (k, b) :: r, d, a => if k = d then (k, a) :: r else (k, b) :: putF r d a
/-- d[k] -/
def itemD : D → D → Option D
  | .lst ds, .int i => (idx ds.length i).bind fun k => ds[k]?
  | .tup ds, .int i => (idx ds.length i).bind fun k => ds[k]?
  | .str s, .int i => if s.length ≤ line then (idx s.length i).bind fun k => s[k]?.map fun c => .str [c] else none
  | .scr ns, .int i => (idx ns.length i).bind fun k => (ns[k]?).map .int
  | _, _ => none
/-- the same within an owned tree -/
def itemO : O → D → Option O
  | .fz d, k => (itemD d k).map .fz
  | .lst os, .int i => (idx os.length i).bind fun k => os[k]?
  | .tup os, .int i => (idx os.length i).bind fun k => os[k]?
  | _, _ => none
def fldO : O → String → Option O
  | .fz (.ins _ fs), f => (getF fs f).map .fz
  | .ins _ fs, f => getF fs f
  | _, _ => none
def lenD : D → Option Nat
  | .lst ds => some ds.length
  | .tup ds => some ds.length
  | .str s => if s.length ≤ line then some s.length else none
  | .scr ns => some ns.length
  | _ => none
def truD : D → Option Bool
  | .non => some false
  | .bl b => some b
  | .int i => some (i != 0)
  | .str s => if s.length ≤ line then some (s.length != 0) else none
  | .lst ds => some (!ds.isEmpty)
  | .tup ds => some (!ds.isEmpty)
  | _ => none
def prefixB : List Nat → List Nat → Bool
  | [], _ => true
  | _ :: _, [] => false
  | a :: r, b :: s => a == b && prefixB r s
def hasSub (x : List Nat) : List Nat → Bool
  | [] => x.isEmpty
  | c :: r => prefixB x (c :: r) || hasSub x r
/-- x in d -/
def inD : D → D → Option Bool
  | .str x, .str s => some (hasSub x s)
  | x, .lst ds => if eqsOk x ds then some (ds.any fun d => eqv d x) else none
  | x, .tup ds => if flatD x && ds.all flatD then some (ds.any fun d => eqv d x) else none
  | _, _ => none
abbrev Op2 := D → D → Option O
abbrev Op1 := D → Option O
def opAdd : Op2
  | .int a, .int b => some (intO (a + b))
  | .str a, .str b => if a.length + b.length ≤ line then some (.fz (.str (a ++ b))) else none
  | .lst a, .lst b => if a.length + b.length ≤ line then some (.lst ((a ++ b).map .fz)) else none
  | .tup a, .tup b => if a.length + b.length ≤ line then some (.fz (.tup (a ++ b))) else none
  | _, _ => none
def opSub : Op2
  | .int a, .int b => some (intO (a - b))
  | _, _ => none
def smallI (i : Int) : Bool := decide (i.natAbs < 18446744073709551616)
/-- of whole numbers alone -/
def opMulI : Op2
  | .int a, .int b => if smallI a || smallI b then some (intO (a * b)) else none
  | _, _ => none
def opMod : Op2
  | .int a, .int b => if 0 < b then some (intO (a % b)) else none
  | _, _ => none
def opFDiv : Op2
  | .int a, .int b => if 0 < b ∧ b < 1073741824 then some (intO (a / b)) else none
  | _, _ => none
def opPow : Op2
  | .int a, .int b => if 0 ≤ b ∧ b ≤ 1000000 ∧ smallI a then some (intO (a ^ b.toNat)) else none
  | _, _ => none
def opEq : Op2 := fun a b => if eqOk a b then some (boolO (eqv a b)) else none
def opNe : Op2 := fun a b => if eqOk a b then some (boolO (!eqv a b)) else none
def opLt : Op2
  | .int a, .int b => some (boolO (decide (a < b)))
  | a, b => (ltD a b).map boolO
def opGt : Op2
  | .int a, .int b => some (boolO (decide (b < a)))
  | _, _ => none
def opLe : Op2
  | .int a, .int b => some (boolO (decide (a ≤ b)))
  | _, _ => none
def opGe : Op2
  | .int a, .int b => some (boolO (decide (b ≤ a)))
  | _, _ => none
def opIn : Op2 := fun a b => (inD a b).map boolO
def opNotIn : Op2 := fun a b => (inD a b).map fun x => boolO (!x)
/-- x is None, x is True, x is False -/
def isD : D → D → Option Bool
  | .non, .non => some true
  | _, .non => some false
  | .bl a, .bl b => some (a == b)
  | _, _ => none
def opIs : Op2 := fun a b => (isD a b).map boolO
def opIsNot : Op2 := fun a b => (isD a b).map fun x => boolO (!x)
def opItem : Op2 := fun a b => (itemD a b).map .fz
/-- xs.index(x), s.index(x) for one sign -/
def findD (ds : List D) (x : D) : Option Nat :=
  match ds with
  | [] => none
  | d :: r => if eqv d x then some 0 else (findD r x).map (· + 1)
def findN (s : List Nat) (c : Nat) : Option Nat :=
  match s with
  | [] => none
  | d :: r => if d = c then some 0 else (findN r c).map (· + 1)
def opIndex : Op2
  | .lst ds, x => if eqsOk x ds then (findD ds x).map fun (k : Nat) => intO (k : Int) else none
  | .str s, .str [c] => (findN s c).map fun (k : Nat) => intO (k : Int)
  | _, _ => none
def opCount : Op2
  | .str s, .str [c] => some (intO (s.countP fun d => d == c))
  | _, _ => none
def strsOf : List D → Option (List (List Nat))
  | [] => some []
  | .str s :: r => (strsOf r).map (s :: ·)
  | _ => none
def joinL (sep : List Nat) : List (List Nat) → List Nat
  | [] => []
  | [x] => x
  | x :: r => x ++ sep ++ joinL sep r
def sizeL (sep : List Nat) : List (List Nat) → Nat
  | [] => 0
  | x :: r => x.length + sep.length + sizeL sep r
def itemsD : D → Option (List D)
  | .lst ds => some ds
  | .tup ds => some ds
  | .str s => some (s.map fun c => .str [c])
  | _ => none
def opJoin : Op2
  | .str sep, d => match d with
    | .lst ds => (strsOf ds).bind fun l => if sizeL sep l ≤ line then some (.fz (.str (joinL sep l))) else none
    | _ => none
  | _, _ => none
def clampI (n : Nat) (i : Int) : Nat := if 0 ≤ i then min i.toNat n else n - (-i).toNat
def sliceL {α : Type} (l : List α) (lo hi : Option Int) : List α :=
  let a := match lo with | none => 0 | some i => clampI l.length i
  let b := match hi with | none => l.length | some i => clampI l.length i
  (l.take b).drop a
def sliceD (d : D) (lo hi : Option Int) : Option O :=
  match d with
  | .lst ds => some (.lst ((sliceL ds lo hi).map .fz))
  | .tup ds => some (.fz (.tup (sliceL ds lo hi)))
  | .str s => if s.length ≤ line then some (.fz (.str (sliceL s lo hi))) else none
  | _ => none
def opLen : Op1 := fun d => (lenD d).map fun (n : Nat) => intO (n : Int)
def opAbs : Op1
  | .int i => some (intO (if i < 0 then -i else i))
  | _ => none
def opInt : Op1
  | .int i => some (intO i)
  | .bl b => some (intO (if b then 1 else 0))
  | _ => none
def opTuple : Op1
  | .lst ds => some (.fz (.tup ds))
  | .tup ds => some (.fz (.tup ds))
  | _ => none
def intsOf : List D → Option (List Int)
  | [] => some []
  | .int i :: r => (intsOf r).map (i :: ·)
  | _ => none
def boolsOf : List D → Option (List Bool)
  | [] => some []
  | .bl i :: r => (boolsOf r).map (i :: ·)
  | _ => none
def opAll : Op1
  | .lst ds => (boolsOf ds).map fun l => boolO (l.all id)
  | _ => none
def opAny : Op1
  | .lst ds => (boolsOf ds).map fun l => boolO (l.any id)
  | _ => none
def isInst (c : String) : D → Option Bool
  | .non => some false
  | .bl _ => some (c == "bool" || c == "int")
  | .int _ => some (c == "int")
  | .str _ => some (c == "str")
  | .lst _ => some (c == "list")
  | .tup _ => some (c == "tuple")
  | _ => none
def opIsInst (c : String) : Op1 := fun d => (isInst c d).map boolO
def pC (d : D) : Px := fun _ => some (.fz d)
def pV (i : Nat) : Px := fun ρ => match ρ[i]? with | some (some o) => some o | _ => none
def pIx (a b : Px) : Px := fun ρ => (a ρ).bind fun x => (b ρ).bind fun k => itemO x k.fr
def pFld (a : Px) (f : String) : Px := fun ρ => (a ρ).bind fun x => fldO x f
def pLen (a : Px) : Px := fun ρ => (a ρ).bind fun x => opLen x.fr
def pOp (f : Op2) (a b : Px) : Px := fun ρ => (a ρ).bind fun x => (b ρ).bind fun y => f x.fr y.fr
def pFz : List Px → Env → Option (List D)
  | [], _ => some []
  | p :: r, ρ => match p ρ with
    | some (.fz d) => (pFz r ρ).map (d :: ·)
    | _ => none
def pTup (ps : List Px) : Px := fun ρ => (pFz ps ρ).map fun ds => .fz (.tup ds)
def eC (d : D) : Ex := fun ρ => .ok (.fz d) ρ
/-- what is read, frozen already -/
def eP (p : Px) : Ex := fun ρ => match p ρ with | some (.fz d) => .ok (.fz d) ρ | _ => .st
/-- a name that may own what it holds: it is frozen in its place -/
def eFrz (i : Nat) : Ex := fun ρ => match ρ[i]? with | some (some o) => .ok (.fz o.fr) (ρ.set i (some (.fz o.fr))) | _ => .st
/-- .. it hands it on -/
def eMv (i : Nat) : Ex := fun ρ => match ρ[i]? with | some (some o) => .ok o (ρ.set i none) | _ => .st
def e1 (f : Op1) (a : Ex) : Ex := fun ρ => (a ρ).bind fun x ρ => ofOpt (f x.fr) ρ
def e2 (f : Op2) (a b : Ex) : Ex := fun ρ => (a ρ).bind fun x ρ => (b ρ).bind fun y ρ => ofOpt (f x.fr y.fr) ρ
/-- a method: the receiver's kind is asked first -/
def eM (chk : D → Bool) (f : Op2) (a b : Ex) : Ex := fun ρ => (a ρ).bind fun x ρ => if chk x.fr then (b ρ).bind fun y ρ => ofOpt (f x.fr y.fr) ρ else .st
def isS : D → Bool
  | .str _ => true
  | _ => false
def isL : D → Bool
  | .lst _ => true
  | _ => false
def isSL (d : D) : Bool := isS d || isL d
/-- the second operand is looked at where it stands -/
def e2P (f : Op2) (a : Ex) (p : Px) : Ex := fun ρ => (a ρ).bind fun x ρ => match p ρ with | some y => ofOpt (f x.fr y.fr) ρ | none => .st
def e1P (f : Op1) (p : Px) : Ex := fun ρ => match p ρ with | some x => ofOpt (f x.fr) ρ | none => .st
def isFz : O → Option D
  | .fz d => some d
  | _ => none
def allFz : List O → Option (List D)
  | [] => some []
  | o :: r => (isFz o).bind fun d => (allFz r).map (d :: ·)
/-- freeze a value that was just made -/
def eFz (a : Ex) : Ex := fun ρ => (a ρ).bind fun x ρ => .ok (.fz x.fr) ρ
def eOpt : Option Ex → Env → R (Option Int)
  | none, ρ => .ok none ρ
  | some e, ρ => (e ρ).bind fun x ρ => match x with | .fz (.int i) => .ok (some i) ρ | _ => .st
def eSl (a : Ex) (lo hi : Option Ex) : Ex := fun ρ => (a ρ).bind fun x ρ => (eOpt lo ρ).bind fun i ρ => (eOpt hi ρ).bind fun j ρ => ofOpt (sliceD x.fr i j) ρ
def eAll : List Ex → Env → R (List O)
  | [], ρ => .ok [] ρ
  | e :: r, ρ => (e ρ).bind fun x ρ => (eAll r ρ).bind fun xs ρ => .ok (x :: xs) ρ
def eLst (es : List Ex) : Ex := fun ρ => (eAll es ρ).bind fun xs ρ => .ok (.lst xs) ρ
/-- a tuple: frozen where its parts are -/
def tupO (xs : List O) : O := match allFz xs with
  | some ds => .fz (.tup ds)
  | none => .tup xs
def eTup (es : List Ex) : Ex := fun ρ => (eAll es ρ).bind fun xs ρ => .ok (tupO xs) ρ
/-- a value as a test -/
def tE (a : Ex) : Tx := fun ρ => (a ρ).bind fun x ρ => ofOpt (truD x.fr) ρ
def tP (p : Px) : Tx := fun ρ => match p ρ with | some x => ofOpt (truD x.fr) ρ | none => .st
def tAnd (a b : Tx) : Tx := fun ρ => (a ρ).bind fun x ρ => if x then b ρ else .ok false ρ
def tOr (a b : Tx) : Tx := fun ρ => (a ρ).bind fun x ρ => if x then .ok true ρ else b ρ
def tNot (a : Tx) : Tx := fun ρ => (a ρ).bind fun x ρ => .ok (!x) ρ
/-- and, or of bools as values -/
def eAnd (a b : Ex) : Ex := fun ρ => (a ρ).bind fun x ρ => match x with | .fz (.bl true) => b ρ | .fz (.bl false) => .ok (boolO false) ρ | _ => .st
def eOr (a b : Ex) : Ex := fun ρ => (a ρ).bind fun x ρ => match x with | .fz (.bl false) => b ρ | .fz (.bl true) => .ok (boolO true) ρ | _ => .st
def eNot (a : Ex) : Ex := fun ρ => (a ρ).bind fun x ρ => match x with | .fz (.bl b) => .ok (boolO (!b)) ρ | _ => .st
def eIf (t : Tx) (a b : Ex) : Ex := fun ρ => (t ρ).bind fun x ρ => if x then a ρ else b ρ
/-- a ⋈ b ⋈ c: the middle once -/
def eChain (f g : Op2) (a b c : Ex) : Ex := fun ρ => (a ρ).bind fun x ρ => (b ρ).bind fun y ρ => (ofOpt (f x.fr y.fr) ρ).bind fun z ρ => match z with
  | .fz (.bl true) => (c ρ).bind fun w ρ => ofOpt (g y.fr w.fr) ρ
  | .fz (.bl false) => .ok (boolO false) ρ
  | _ => .st
inductive Tgt where
  | nm (i : Nat) | tp (ts : List Tgt)
mutual
def asgn : Tgt → O → Env → Option Env
  | .nm i, o, ρ => if i < ρ.length then some (ρ.set i (some o)) else none
  | .tp ts, .fz (.tup ds), ρ => if ts.length = ds.length then asgns ts (ds.map .fz) ρ else none
  | .tp ts, .tup os, ρ => if ts.length = os.length then asgns ts os ρ else none
  | _, _, _ => none
def asgns : List Tgt → List O → Env → Option Env
  | [], _, ρ => some ρ
  | t :: r, o :: os, ρ => (asgn t o ρ).bind (asgns r os)
  | _, _, _ => none
end
def iE (e : Ex) : Itx := fun ρ => (e ρ).bind fun x ρ => ofOpt (itemsD x.fr) ρ
def rangeL (lo : Int) (step : Int) : Nat → List D
  | 0 => []
  | n + 1 => .int lo :: rangeL (lo + step) step n
def small62 (i : Int) : Bool := decide (i.natAbs < 4611686018427387904)
def iRange (a b : Ex) : Itx := fun ρ => (a ρ).bind fun x ρ => (b ρ).bind fun y ρ => match x, y with
  | .fz (.int i), .fz (.int j) => if small62 i && small62 j then .ok (rangeL i 1 (j - i).toNat) ρ else .st
  | _, _ => .st
def iRange1 (b : Ex) : Itx := fun ρ => (b ρ).bind fun y ρ => match y with
  | .fz (.int j) => if small62 j then .ok (rangeL 0 1 j.toNat) ρ else .st
  | _ => .st
/-- downwards, by ones -/
def iDown (a b : Ex) : Itx := fun ρ => (a ρ).bind fun x ρ => (b ρ).bind fun y ρ => match x, y with
  | .fz (.int i), .fz (.int j) => if small62 i && small62 j then .ok (rangeL i (-1) (i - j).toNat) ρ else .st
  | _, _ => .st
def enumL : Nat → List D → List D
  | _, [] => []
  | n, d :: r => .tup [.int n, d] :: enumL (n + 1) r
def zipL : List D → List D → List D
  | a :: r, b :: s => .tup [a, b] :: zipL r s
  | _, _ => []
def iItems (e : Ex) : Itx := fun ρ => (e ρ).bind fun x ρ => match x.fr with
  | .dic kvs => .ok (kvs.map fun p => .tup [p.1, p.2]) ρ
  | _ => .st
def hide (own : List Nat) (ρ : Env) : Env := own.foldl (fun ρ i => ρ.set i none) ρ
/-- a generator of a comprehension: target, what is walked, tests -/
def compG (own : List Nat) (ts : Tgt) (conds : Tx) (elt : Env → List O → R (List O)) : List D → Env → List O → R (List O)
  | [], ρ, acc => .ok acc ρ
  | x :: r, ρ, acc => match asgn ts (.fz x) (hide own ρ) with
    | none => .st
    | some ρ => (conds ρ).ne.bind fun b ρ => if b then (elt ρ acc).ne.bind fun acc ρ => compG own ts conds elt r ρ acc else compG own ts conds elt r ρ acc
def tT : Tx := fun ρ => .ok true ρ
def unhide (own : List Nat) (ρ₀ ρ : Env) : Env := own.foldl (fun ρ i => ρ.set i (match ρ₀[i]? with | some o => o | none => none)) ρ
/-- the slots of a comprehension's own names hold nothing that is owned -/
def ownFree (own : List Nat) (ρ : Env) : Bool := own.all fun i => match ρ[i]? with
  | some none => true
  | some (some (.fz _)) => true
  | _ => false
def push (elt : Ex) : Env → List O → R (List O) := fun ρ acc => (elt ρ).bind fun x ρ => if acc.length < line then .ok (acc ++ [x]) ρ else .st
def eComp (own : List Nat) (t : Tgt) (it : Itx) (conds : Tx) (elt : Ex) : Ex := fun ρ => (it ρ).bind fun xs ρ₀ => if !ownFree own ρ₀ then .st else
  (compG own t conds (push elt) xs ρ₀ []).bind fun acc ρ => .ok (.lst acc) (unhide own ρ₀ ρ)
/-- list(range(..)), list(zip(..)) -/
def eItL (it : Itx) : Ex := fun ρ => (it ρ).bind fun xs ρ => .ok (.lst (xs.map .fz)) ρ
/-- an argument: borrowed (a name's own, handed back), or a value -/
inductive Ar where
  | io (i : Nat) | v (e : Ex) | mv (e : Ex)
def args : List Ar → Env → R (List (Option O))
  | [], ρ => .ok [] ρ
  | .io i :: r, ρ => match ρ[i]? with
    | some (some _) => (args r ρ).bind fun xs ρ => .ok (none :: xs) ρ
    | _ => .st
  | .v e :: r, ρ => (e ρ).bind fun x ρ => (args r ρ).bind fun xs ρ => .ok (some (.fz x.fr) :: xs) ρ
  | .mv e :: r, ρ => (e ρ).bind fun x ρ => (args r ρ).bind fun xs ρ => .ok (some x :: xs) ρ
/-- the borrowed ones are taken as they stand when all arguments are known -/
def fillA : List Ar → List (Option O) → Env → Option (List O)
  | [], _, _ => some []
  | .io i :: r, _ :: xs, ρ => match ρ[i]? with
    | some (some o) => (fillA r xs ρ).map (o :: ·)
    | _ => none
  | _ :: r, some x :: xs, ρ => (fillA r xs ρ).map (x :: ·)
  | _, _, _ => none
def backA : List Ar → Env → Env → Option Env
  | [], _, ρ => some ρ
  | .io i :: r, outs, ρ => match outs with
    | some o :: outs => if i < ρ.length then backA r outs (ρ.set i (some o)) else none
    | _ => none
  | _ :: r, outs, ρ => backA r outs ρ
def ios : List Ar → List Nat
  | [] => []
  | .io i :: r => i :: ios r
  | _ :: r => ios r
def eCall (f : FSem) (as : List Ar) : Ex := fun ρ => (args as ρ).bind fun xs ρ => match fillA as xs ρ with
  | none => .st
  | some os => match f os with
    | .ok o outs => match backA as outs (hide (ios as) ρ) with
      | some ρ' => .ok o ρ'
      | none => .st
    | .exc x ds outs => match backA as outs (hide (ios as) ρ) with
      | some ρ' => .exc x ds ρ'
      | none => .st
    | .st => .st
/-- a def within a def: what it reads of the outer one is handed on behind its own arguments -/
def clo (f : FSem) (is : List Nat) : Env → Option FSem := fun ρ => (is.mapM fun i => (pV i ρ).map O.fr).map fun ds => fun os => f (os ++ ds.map .fz)
/-- a new instance: __init__ has it as its first argument, borrowed -/
def semMake (c : String) (init : FSem) : FSem := fun os => match init (.ins c [] :: os) with
  | .ok (.fz .non) (some o :: outs) => .ok o outs
  | .exc x ds (some _ :: outs) => .exc x ds outs
  | _ => .st
def fieldAt {α : Type} : List (String × α) → String → Option Nat
  | [], _ => none
  | (k, _) :: r, d => if d = k then some 0 else (fieldAt r d).map (· + 1)
/-- the subtree at a path of children -/
def subO : O → List Nat → Option O
  | o, [] => some o
  | .lst os, k :: π => (os[k]?).bind fun o => subO o π
  | .dic kos, k :: π => (kos[k]?).bind fun p => subO p.2 π
  | .ins _ fs, k :: π => (fs[k]?).bind fun p => subO p.2 π
  | _, _ => none
def setO : O → List Nat → O → Option O
  | _, [], n => some n
  | .lst os, k :: π, n => (os[k]?).bind fun o => (setO o π n).map fun o' => .lst (os.set k o')
  | .dic kos, k :: π, n => (kos[k]?).bind fun p => (setO p.2 π n).map fun o' => .dic (kos.set k (p.1, o'))
  | .ins c fs, k :: π, n => (fs[k]?).bind fun p => (setO p.2 π n).map fun o' => .ins c (fs.set k (p.1, o'))
  | _, _, _ => none
def lV (i : Nat) : Lx := fun _ => some (i, [])
def atL (ρ : Env) (l : Nat × List Nat) : Option O := match ρ[l.1]? with
  | some (some o) => subO o l.2
  | _ => none
/-- the tree at a place is changed -/
def modL (l : Nat × List Nat) (f : O → Option O) (ρ : Env) : Option Env := match ρ[l.1]? with
  | some (some o) => (subO o l.2).bind fun s => (f s).bind fun s' => (setO o l.2 s').map fun o' => ρ.set l.1 (some o')
  | _ => none
/-- l is read, then e (which does not see the tree that l is in, if l is inside it) -/
def atThen (l : Lx) (e : Ex) (f : O → O → Option O) : Env → R Unit := fun ρ => match l ρ with
  | none => .st
  | some (r, []) => (e ρ).bind fun x ρ => match modL (r, []) (fun s => f s x) ρ with | some ρ' => .ok () ρ' | none => .st
  | some (r, k :: π) => match ρ[r]? with
    | some (some o) => match e (ρ.set r none) with
      | .ok x ρ => match ρ[r]? with
        | some none => match modL (r, k :: π) (fun s => f s x) (ρ.set r (some o)) with | some ρ' => .ok () ρ' | none => .st
        | _ => .st
      | .exc x ds ρ => match ρ[r]? with
        | some none => .exc x ds (ρ.set r (some o))
        | _ => .st
      | .st => .st
    | _ => .st
def appO : O → O → Option O
  | .lst os, x => if os.length < line then some (.lst (os ++ [x])) else none
  | _, _ => none
def extO : O → O → Option O
  | .lst os, x => match x.fr with
    | .lst ds => if os.length + ds.length ≤ line then some (.lst (os ++ ds.map .fz)) else none
    | _ => none
  | _, _ => none
/-- o[k] = x -/
def setItemO (k : D) (x : O) : O → Option O
  | .lst os => match k with
    | .int i => (idx os.length i).map fun n => .lst (os.set n x)
    | _ => none
  | _ => none
/-- the fields that an instance of a class may have -/
def attrsOf : String → List String
  | "Machine" => ["reads", "writes", "left", "right", "table"]
  | "Automaton" => ["rows", "accepts"]
  | "Pattern" => ["alphabet", "text", "network"]
  | "Network" => ["marks", "follow", "ends"]
  | "Part" => ["nullable", "first", "last"]
  | "Scanner" => ["alphabet", "marks", "follow", "frames", "signs", "starred"]
  | "ContextRule" => ["before", "after", "front", "behind"]
  | "Side" => ["network", "whole"]
  | "Rules" => ["alphabet", "text", "told"]
  | "Book" => ["alphabet", "rows", "before"]
  | _ => []
def setFldO (f : String) (x : O) : O → Option O
  | .ins c fs => if fs.length < 1000 ∧ (attrsOf c).contains f then some (.ins c (putF fs f x)) else none
  | _ => none
def sNx : Stx := fun ρ => .ok .nx ρ
def sSeq (s t : Stx) : Stx := fun ρ => (s ρ).bind fun f ρ => match f with | .nx => t ρ | f => .ok f ρ
def sBlk : List Stx → Stx
  | [] => sNx
  | [s] => s
  | s :: r => sSeq s (sBlk r)
def sSet (t : Tgt) (e : Ex) : Stx := fun ρ => (e ρ).bind fun x ρ => match asgn t x ρ with | some ρ => .ok .nx ρ | none => .st
def sEx (e : Ex) : Stx := fun ρ => (e ρ).bind fun _ ρ => .ok .nx ρ
def sRet (e : Ex) : Stx := fun ρ => (e ρ).bind fun x ρ => .ok (.ret x) ρ
def sRetN : Stx := fun ρ => .ok (.ret (.fz .non)) ρ
def sIf (t : Tx) (a b : Stx) : Stx := fun ρ => (t ρ).bind fun x ρ => if x then a ρ else b ρ
def sBrk : Stx := fun ρ => .ok .brk ρ
def unitS : R Unit → R Flow := fun r => r.bind fun _ ρ => .ok .nx ρ
def lstAt (l : Lx) (ρ : Env) : Bool := match (l ρ).bind (atL ρ) with
  | some (.lst _) => true
  | _ => false
def sApp (l : Lx) (e : Ex) : Stx := fun ρ => if lstAt l ρ then unitS (atThen l e appO ρ) else .st
def sExt (l : Lx) (e : Ex) : Stx := fun ρ => if lstAt l ρ then unitS (atThen l e extO ρ) else .st
/-- l[k] = e: e first, then the place, then k -/
def isAt (l : Lx) (ρ : Env) : Bool := ((l ρ).bind (atL ρ)).isSome
def sSetI (l : Lx) (k : Ex) (e : Ex) : Stx := fun ρ => (e ρ).bind fun x ρ => if isAt l ρ then unitS (atThen l k (fun s k => setItemO k.fr x s) ρ) else .st
def sSetF (l : Lx) (f : String) (e : Ex) : Stx := fun ρ => (e ρ).bind fun x ρ => match l ρ with
  | some a => match modL a (setFldO f x) ρ with | some ρ' => .ok .nx ρ' | none => .st
  | none => .st
def forL (t : Tgt) (body : Stx) : List D → Env → R Flow
  | [], ρ => .ok .nx ρ
  | x :: r, ρ => match asgn t (.fz x) ρ with
    | none => .st
    | some ρ => (body ρ).bind fun f ρ => match f with
      | .nx => forL t body r ρ
      | .brk => .ok .nx ρ
      | .ret o => .ok (.ret o) ρ
def sFor (t : Tgt) (it : Itx) (body : Stx) : Stx := fun ρ => (it ρ).bind fun xs ρ => forL t body xs ρ
def whileL (c : Tx) (body : Stx) : Nat → Env → R Flow
  | 0, _ => .st
  | n + 1, ρ => (c ρ).bind fun b ρ => if b then (body ρ).bind fun f ρ => match f with
      | .nx => whileL c body n ρ
      | .brk => .ok .nx ρ
      | .ret o => .ok (.ret o) ρ
    else .ok .nx ρ
def sWhile (n : Nat) (c : Tx) (body : Stx) : Stx := fun ρ => whileL c body n ρ
def fieldsOf : String → List String
  | "PatternError" => ["place", "reason"]
  | "RuleError" => ["line", "place", "reason"]
  | _ => ["reason"]
/-- list(x) of a list, a tuple -/
def opListS : Op1
  | .lst ds => some (.lst (ds.map .fz))
  | .tup ds => some (.lst (ds.map .fz))
  | _ => none
/-- xs[::-1] of a list -/
def opRevL : Op1
  | .lst ds => some (.lst (ds.reverse.map .fz))
  | _ => none
def opAddI : Op2
  | .int a, .int b => some (intO (a + b))
  | _, _ => none
/-- enumerate(xs) of a list -/
def iEnumL (e : Ex) : Itx := fun ρ => (e ρ).bind fun x ρ => match x.fr with
  | .lst ds => .ok (enumL 0 ds) ρ
  | _ => .st
/-- zip(xs, ys) of lists -/
def iZipL (a b : Ex) : Itx := fun ρ => (a ρ).bind fun x ρ => (b ρ).bind fun y ρ => match x.fr, y.fr with
  | .lst ds, .lst es => .ok (zipL ds es) ρ
  | _, _ => .st
def eZipL (a b : Ex) : Ex := eItL (iZipL a b)
/-- enumerate(zip(xs, ys)) of lists of one length -/
def iEnumZ (a b : Ex) : Itx := fun ρ => (a ρ).bind fun x ρ => (b ρ).bind fun y ρ => match x.fr, y.fr with
  | .lst ds, .lst es => if ds.length = es.length then .ok (enumL 0 (zipL ds es)) ρ else .st
  | _, _ => .st
/-- sorted(xs) of alike plain things -/
def leB (a b : D) : Bool := !ltB b a
def allAl (ds : List D) : Bool := ds.all fun a => ds.all fun b => alikeD a b
def tupN : D → Bool
  | .tup (_ :: _) => true
  | _ => false
def flatN : D → Bool
  | .bl _ => true
  | .int _ => true
  | .str _ => true
  | .lst _ => true
  | _ => false
def opSortM : Op1
  | .lst ds => if (plains ds && allAl ds && (ds.all tupN || ds.all flatN) && decide (ds.length ≤ line)) = true then some (.lst ((ds.mergeSort leB).map .fz)) else none
  | _ => none
/-- a statement that is never come to -/
def sNever : Stx := fun _ => .st
def leafD : D → Bool
  | .int _ => true
  | .str _ => true
  | _ => false
def isTupD : D → Bool
  | .tup _ => true
  | _ => false
/-- a part of a key that is a tuple, not too deep -/
def nkN : Nat → D → Bool
  | _, .non => true
  | _, .bl _ => true
  | _, .int _ => true
  | _, .str _ => true
  | n + 1, .tup ds => ds.all (nkN n)
  | _, _ => false
/-- what is taken for a key -/
def kOk (k : D) : Bool := leafD k || (isTupD k && nkN 8 k)
/-- .. for a key of this dict: tuples and others are never together -/
def headOk {α : Type} (kvs : List (D × α)) (k : D) : Bool := kOk k && match kvs with
  | [] => true
  | p :: _ => isTupD p.1 == isTupD k
def getDO : O → D → Option O
  | .fz (.dic kvs), k => if headOk kvs k then (getK kvs k).map .fz else none
  | .dic kos, k => if headOk kos k then getK kos k else none
  | _, _ => none
/-- d[k] of a dict -/
def pDix (a b : Px) : Px := fun ρ => (a ρ).bind fun x => (b ρ).bind fun k => getDO x k.fr
def opInDic : Op2 := fun k d => match d with
  | .dic kvs => if headOk kvs k then some (boolO (getK kvs k).isSome) else none
  | _ => none
def opNotInDic : Op2 := fun k d => match d with
  | .dic kvs => if headOk kvs k then some (boolO (!(getK kvs k).isSome)) else none
  | _ => none
/-- name[k] = e, the name holds a dict -/
def sSetD (i : Nat) (k e : Ex) : Stx := fun ρ => (e ρ).bind fun x ρ => match ρ[i]? with
  | some (some (.dic _)) => (k ρ).bind fun k ρ => match ρ[i]? with
    | some (some (.dic kos)) => if headOk kos k.fr ∧ kos.length < line then .ok .nx (ρ.set i (some (.dic (putK kos k.fr x)))) else .st
    | _ => .st
  | _ => .st
/-- {} and {k: v} -/
def eDic0 : Ex := fun ρ => .ok (.dic []) ρ
def eDic1 (k v : Ex) : Ex := fun ρ => (k ρ).bind fun k ρ => (v ρ).bind fun v ρ => if kOk k.fr then .ok (.dic [(k.fr, v)]) ρ else .st
def outsOf : List Nat → Env → Option Env
  | [], _ => some []
  | i :: r, ρ => match ρ[i]? with
    | some (some o) => (outsOf r ρ).map (some o :: ·)
    | _ => none
def runDef (n np : Nat) (io : List Nat) (body : Stx) : FSem := fun os =>
  if os.length = np then
    match body (os.map some ++ List.replicate (n - np) none) with
    | .ok f ρ => match f with
      | .nx => match outsOf io ρ with | some outs => .ok (.fz .non) outs | none => .st
      | .ret o => match outsOf io ρ with | some outs => .ok o outs | none => .st
      | .brk => .st
    | .exc x ds ρ => match outsOf io ρ with | some outs => .exc x ds outs | none => .st
    | .st => .st
  else .st
abbrev Pth := Env → O → Option (List Nat × O)
def ptV : Pth := fun _ o => some ([], o)
def ptIx (l : Pth) (p : Px) : Pth := fun ρ o => (l ρ o).bind fun r => match r.2 with
  | .lst os => (p ρ).bind fun k => match k.fr with
    | .int i => (idx os.length i).bind fun n => (os[n]?).map fun c => (r.1 ++ [n], c)
    | _ => none
  | _ => none
def subAt : List Nat → O → Option O
  | [], o => some o
  | n :: π, .lst os => (os[n]?).bind (subAt π)
  | n :: π, .ins _ fs => (fs[n]?).bind fun p => subAt π p.2
  | _ :: _, _ => none
def putAt : List Nat → O → O → O
  | [], _, x => x
  | n :: π, .lst os, x => match os[n]? with
    | some c => .lst (os.set n (putAt π c x))
    | none => .lst os
  | n :: π, .ins c fs, x => match fs[n]? with
    | some p => .ins c (fs.set n (p.1, putAt π p.2 x))
    | none => .ins c fs
  | _ :: _, o, _ => o
/-- name[..]..[k] = e -/
def sSetP (i : Nat) (l : Pth) (k e : Ex) : Stx := fun ρ => (e ρ).bind fun x ρ => match ρ[i]? with
  | some (some o) => match l ρ o with
    | some (π, .lst os) => (k (ρ.set i none)).bind fun kk ρ => match kk.fr with
      | .int j => match idx os.length j with
        | some n => .ok .nx (ρ.set i (some (putAt π o (.lst (os.set n x)))))
        | none => .st
      | _ => .st
    | _ => .st
  | _ => .st
/-- what is read at a place below a name: it is frozen there -/
def eRdP (i : Nat) (l : Pth) : Ex := fun ρ => match ρ[i]? with
  | some (some o) => match l ρ o with
    | some (π, c) => .ok (.fz c.fr) (ρ.set i (some (putAt π o (.fz c.fr))))
    | none => .st
  | _ => .st
/-- {k: v for ..}, keys whole numbers or texts -/
def dcompL (own : List Nat) (t : Tgt) (conds : Tx) (key val : Ex) : List D → Env → List (D × O) → R (List (D × O))
  | [], ρ, acc => .ok acc ρ
  | x :: r, ρ, acc => match asgn t (.fz x) (hide own ρ) with
    | none => .st
    | some ρ => (conds ρ).ne.bind fun b ρ => if b = true then (key ρ).ne.bind fun k ρ => (val ρ).ne.bind fun v ρ => if (leafD k.fr && decide (acc.length < line)) = true then dcompL own t conds key val r ρ (putK acc k.fr v) else .st
      else dcompL own t conds key val r ρ acc
def eDCompL (own : List Nat) (t : Tgt) (it : Itx) (conds : Tx) (key val : Ex) : Ex := fun ρ => (it ρ).bind fun xs ρ₀ => if !ownFree own ρ₀ then .st else
  (dcompL own t conds key val xs ρ₀ []).bind fun acc ρ => .ok (.dic acc) (unhide own ρ₀ ρ)
/-- list(range(n)) -/
def eLRg (a : Ex) : Ex := fun ρ => (a ρ).bind fun x ρ => match x with
  | .fz (.int j) => if 0 ≤ j ∧ j ≤ 16777216 then .ok (.lst ((rangeL 0 1 j.toNat).map .fz)) ρ else .st
  | _ => .st
/-- the keys of a dict -/
def iKeysD (e : Ex) : Itx := fun ρ => (e ρ).bind fun x ρ => match x.fr with
  | .dic kvs => .ok (kvs.map fun p => p.1) ρ
  | _ => .st
/-- a loop over a dict: nothing is raised in it -/
def sForI (t : Tgt) (it : Itx) (body : Stx) : Stx := fun ρ => (it ρ).bind fun xs ρ => (forL t body xs ρ).ne
def isDicO : O → Bool
  | .dic _ => true
  | .fz (.dic _) => true
  | _ => false
/-- what d.get(k, x) gives -/
def getR (o : O) (k x : D) : Option D := match o with
  | .dic kos => if headOk kos k then (match getK kos k with | some (.fz d) => some d | some _ => none | none => some x) else none
  | .fz (.dic kvs) => if headOk kvs k then some ((getK kvs k).getD x) else none
  | _ => none
/-- d.get(k, x) of the dict at a name -/
def eGetD (i : Nat) (k x : Ex) : Ex := fun ρ => match ρ[i]? with
  | some (some o) => if isDicO o then (k ρ).bind fun k ρ => (x ρ).bind fun x ρ => match ρ[i]? with
      | some (some o) => ofOpt ((getR o k.fr x.fr).map O.fz) ρ
      | _ => .st
    else .st
  | _ => .st
/-- xs.pop() of the list at a name -/
def ePopL (i : Nat) : Ex := fun ρ => match ρ[i]? with
  | some (some (.lst os)) => match os.getLast? with
    | some o => .ok o (ρ.set i (some (.lst os.dropLast)))
    | none => .st
  | _ => .st
/-- .. a field of it -/
def ptFld (l : Pth) (f : String) : Pth := fun ρ o => (l ρ o).bind fun r => match r.2 with
  | .ins _ fs => (fieldAt fs f).bind fun n => (fs[n]?).map fun p => (r.1 ++ [n], p.2)
  | _ => none
/-- place.append(e) -/
def rAppP (i : Nat) (l : Pth) (e : Ex) : Env → R Unit := fun ρ => match ρ[i]? with
  | some (some o) => match l ρ o with
    | some (π, .lst os) => match e (ρ.set i none) with
      | .ok x ρ => if os.length < line then .ok () (ρ.set i (some (putAt π o (.lst (os ++ [x]))))) else .st
      | .exc y ds ρ => .exc y ds (ρ.set i (some (putAt π o (.lst os))))
      | .st => .st
    | _ => .st
  | _ => .st
def sAppP (i : Nat) (l : Pth) (e : Ex) : Stx := fun ρ => unitS (rAppP i l e ρ)
/-- place.pop() -/
def ePopP (i : Nat) (l : Pth) : Ex := fun ρ => match ρ[i]? with
  | some (some o) => match l ρ o with
    | some (π, .lst os) => match os.getLast? with
      | some x => .ok x (ρ.set i (some (putAt π o (.lst os.dropLast))))
      | none => .st
    | _ => .st
  | _ => .st
/-- name.f += e, whole numbers -/
def sFAug (i : Nat) (f : String) (e : Ex) : Stx := fun ρ => match ρ[i]? with
  | some (some (.ins c fs)) => match getF fs f with
    | some (.fz (.int a)) => (e ρ).bind fun x ρ' => match x with
      | .fz (.int b) => match ρ'[i]? with
        | some (some (.ins c' fs)) => if c' = c ∧ fs.length < 1000 ∧ (attrsOf c).contains f then .ok .nx (ρ'.set i (some (.ins c (putF fs f (intO (a + b)))))) else .st
        | _ => .st
      | _ => .st
    | _ => .st
  | _ => .st
/-- name.m(..), name an instance of c -/
def eMeth (c : String) (f : FSem) (i : Nat) (as : List Ar) : Ex := fun ρ => match ρ[i]? with
  | some (some (.ins c' _)) => if c' = c then eCall f (.io i :: as) ρ else .st
  | _ => .st
/-- sorted(d) of a dict whose keys are whole numbers -/
def opSortI : Op1
  | .dic kvs => match intsOf (kvs.map fun p => p.1) with
    | some ks => if ks.length < 64 then some (.lst ((ks.mergeSort fun a b => decide (a ≤ b)).map fun i => .fz (.int i))) else none
    | none => none
  | _ => none
end FA
namespace FA
open PySem L2
abbrev CT := String → Option Addr
def Str' (s : List Nat) : Str := ⟨s.toArray⟩
def Sub (F H : Hp) : Prop := ∀ a o, F a = some o → H a = some o
theorem Sub.refl (H : Hp) : Sub H H := fun _ _ h => h
theorem Sub.trans {F G H : Hp} (a : Sub F G) (b : Sub G H) : Sub F H := fun x o h => b x o (a x o h)
theorem Sub.new {H : Hp} {p : Addr} {o : HO} (h : H p = none) : Sub H (upd H p o) := fun a u e => by
  rw [upd_ne (ne_of_none e h)]; exact e
theorem Sub.both {F H : Hp} {p : Addr} {o : HO} (s : Sub F H) : Sub (upd F p o) (upd H p o) := fun a u e => by
  by_cases h : a = p
  · subst h; rw [upd_same] at e ⊢; exact e
  · rw [upd_ne h] at e ⊢; exact s a u e
mutual
def RepK (F : Hp) : D → V → Prop
  | .non, v => v = .non
  | .bl b, v => v = .bl b
  | .int i, v => v = .int i
  | .str s, v => v = .str (Str' s)
  | .tup ds, v => ∃ a vs, v = .ref a ∧ F a = some (.tup vs) ∧ RepKs F ds vs
  | _, _ => False
def RepKs (F : Hp) : List D → List V → Prop
  | [], vs => vs = []
  | d :: r, vs => ∃ v vr, vs = v :: vr ∧ RepK F d v ∧ RepKs F r vr
end
/-- at a stands a dict of these keys and values -/
def keyOf : D → Option Key
  | .int i => some (.inl i)
  | .str s => some (.inr (Str' s))
  | _ => none
def DicLeaf (H : Hp) (a : Addr) (kvs : List (D × V)) : Prop := ∃ kk : List (Key × V), H a = some (.dK kk) ∧ kk.map (fun p => some p.1) = kvs.map (fun p => keyOf p.1) ∧ kk.map (·.2) = kvs.map (·.2) ∧ (kk.map (·.1)).Nodup
/-- a dict of tuples: its object by its entries; W says what is so of the object -/
structure DicTup (Ob : Addr → List (D × Addr × V) → Heap → Prop) (F H : Hp) (a : Addr) (kvs : List (D × V)) : Prop where
  ex : ∃ xs : List (D × Addr × V), H a = some (.ext (Ob a xs)) ∧ xs.map (fun x => (x.1, x.2.2)) = kvs ∧ (∀ x ∈ xs, RepK F x.1 (.ref x.2.1)) ∧ xs ≠ []
structure Wd where
  P : Program
  w : World
  K : PySem.W.Frag
  ct : CT
  Ob : Addr → List (D × Addr × V) → Heap → Prop
section
variable (Γ : Wd)
def DicRep (F H : Hp) (a : Addr) (kvs : List (D × V)) : Prop := DicLeaf H a kvs ∨ DicTup Γ.Ob F H a kvs
/-- the same to be read only: it may be locked -/
def DicRd (F H : Hp) (a : Addr) (kvs : List (D × V)) : Prop := (∃ kk : List (Key × V), Rd H a (.dK kk) ∧ kk.map (fun p => some p.1) = kvs.map (fun p => keyOf p.1) ∧ kk.map (·.2) = kvs.map (·.2) ∧ (kk.map (·.1)).Nodup) ∨
  ∃ xs : List (D × Addr × V), Rd H a (.ext (Γ.Ob a xs)) ∧ xs.map (fun x => (x.1, x.2.2)) = kvs ∧ (∀ x ∈ xs, RepK F x.1 (.ref x.2.1)) ∧ xs ≠ []
theorem DicRep.rd {Γ : Wd} {F H : Hp} {a : Addr} {kvs : List (D × V)} (r : DicRep Γ F H a kvs) : DicRd Γ F H a kvs := by
  rcases r with ⟨kk, e, x⟩ | ⟨⟨xs, e, x⟩⟩
  · exact .inl ⟨kk, .inl e, x⟩
  · exact .inr ⟨xs, .inl e, x⟩
mutual
def RepF (F : Hp) : D → V → Prop
  | .non, v => v = .non
  | .bl b, v => v = .bl b
  | .int i, v => v = .int i
  | .str s, v => v = .str (Str' s)
  | .lst ds, v => ∃ a vs, v = .ref a ∧ F a = some (.lst vs) ∧ RepFs F ds vs
  | .tup ds, v => ∃ a vs, v = .ref a ∧ F a = some (.tup vs) ∧ RepFs F ds vs
  | .dic kvs, v => ∃ a kvv, v = .ref a ∧ DicRd Γ F F a kvv ∧ RepFk F kvs kvv
  | .ins c fs, v => ∃ a C dx fvs, v = .ref a ∧ Γ.ct c = some C ∧ F a = some (.ins C dx fvs) ∧ RepFf F c fs fvs
  | .scr ns, v => ∃ a, v = .ref a ∧ SqL Γ.K F a (ns.map V.int)
def RepFs (F : Hp) : List D → List V → Prop
  | [], vs => vs = []
  | d :: r, vs => ∃ v vr, vs = v :: vr ∧ RepF F d v ∧ RepFs F r vr
def RepFk (F : Hp) : List (D × D) → List (D × V) → Prop
  | [], vs => vs = []
  | (k, d) :: r, vs => ∃ v vr, vs = (k, v) :: vr ∧ RepF F d v ∧ RepFk F r vr
def RepFf (F : Hp) (c : String) : List (String × D) → List (Str × V) → Prop
  | [], vs => vs = []
  | (k, d) :: r, vs => ∃ v vr, vs = (Str.ofString k, v) :: vr ∧ k ∈ attrsOf c ∧ RepF F d v ∧ RepFf F c r vr
end
mutual
def RepO (F H : Hp) : O → V → List Addr → Prop
  | .fz d, v, fp => RepF Γ F d v ∧ fp = []
  | .lst os, v, fp => ∃ a vs f, v = .ref a ∧ H a = some (.lst vs) ∧ fp = a :: f ∧ RepOs F H os vs f
  | .tup os, v, fp => ∃ a vs, v = .ref a ∧ F a = some (.tup vs) ∧ RepOs F H os vs fp
  | .dic kos, v, fp => ∃ a kvv f, v = .ref a ∧ DicRep Γ F H a kvv ∧ fp = a :: f ∧ RepOk F H kos kvv f
  | .ins c fs, v, fp => ∃ a C dx fvs f, v = .ref a ∧ Γ.ct c = some C ∧ H a = some (.ins C dx fvs) ∧ fp = a :: f ∧ RepOf F H c fs fvs f
def RepOs (F H : Hp) : List O → List V → List Addr → Prop
  | [], vs, fp => vs = [] ∧ fp = []
  | o :: r, vs, fp => ∃ v vr f1 f2, vs = v :: vr ∧ fp = f1 ++ f2 ∧ RepO F H o v f1 ∧ RepOs F H r vr f2
def RepOk (F H : Hp) : List (D × O) → List (D × V) → List Addr → Prop
  | [], vs, fp => vs = [] ∧ fp = []
  | (k, o) :: r, vs, fp => ∃ v vr f1 f2, vs = (k, v) :: vr ∧ fp = f1 ++ f2 ∧ RepO F H o v f1 ∧ RepOk F H r vr f2
def RepOf (F H : Hp) (c : String) : List (String × O) → List (Str × V) → List Addr → Prop
  | [], vs, fp => vs = [] ∧ fp = []
  | (k, o) :: r, vs, fp => ∃ v vr f1 f2, vs = (Str.ofString k, v) :: vr ∧ k ∈ attrsOf c ∧ fp = f1 ++ f2 ∧ RepO F H o v f1 ∧ RepOf F H c r vr f2
end
end
section
variable {F F' H H' : Hp}
mutual
theorem RepK.mono (h : Sub F F') : ∀ {d : D} {v : V}, RepK F d v → RepK F' d v
  | .non, _, r => r
  | .bl _, _, r => r
  | .int _, _, r => r
  | .str _, _, r => r
  | .tup _, _, ⟨a, vs, e, q, r⟩ => ⟨a, vs, e, h _ _ q, RepKs.mono h r⟩
  | .lst _, _, r => r.elim
  | .dic _, _, r => r.elim
  | .ins _ _, _, r => r.elim
  | .scr _, _, r => r.elim
theorem RepKs.mono (h : Sub F F') : ∀ {ds : List D} {vs : List V}, RepKs F ds vs → RepKs F' ds vs
  | [], _, r => r
  | _ :: _, _, ⟨v, vr, e, r, s⟩ => ⟨v, vr, e, RepK.mono h r, RepKs.mono h s⟩
end
variable {Γ : Wd}
theorem DicRep.mono {a : Addr} {kvs : List (D × V)} (hF : Sub F F') (hH : ∀ o, H a = some o → H' a = some o) (r : DicRep Γ F H a kvs) : DicRep Γ F' H' a kvs := by
  rcases r with ⟨kk, e, x⟩ | ⟨⟨xs, e, x, k⟩⟩
  · exact .inl ⟨kk, hH _ e, x⟩
  · exact .inr ⟨xs, hH _ e, x, fun y hy => RepK.mono hF (k.1 y hy), k.2⟩
theorem Rd.mono {a : Addr} {u : HO} (hH : ∀ o, H a = some o → H' a = some o) (r : Rd H a u) : Rd H' a u := by
  rcases r with e | ⟨o, e⟩
  · exact .inl (hH _ e)
  · exact .inr ⟨o, hH _ e⟩
theorem DicRd.mono {a : Addr} {kvs : List (D × V)} (hF : Sub F F') (hH : ∀ o, H a = some o → H' a = some o) (r : DicRd Γ F H a kvs) : DicRd Γ F' H' a kvs := by
  rcases r with ⟨kk, e, x⟩ | ⟨xs, e, x, k⟩
  · exact .inl ⟨kk, Rd.mono hH e, x⟩
  · exact .inr ⟨xs, Rd.mono hH e, x, fun y hy => RepK.mono hF (k.1 y hy), k.2⟩
mutual
theorem RepF.mono (h : Sub F F') : ∀ {d : D} {v : V}, RepF Γ F d v → RepF Γ F' d v
  | .non, _, r => r
  | .bl _, _, r => r
  | .int _, _, r => r
  | .str _, _, r => r
  | .lst _, _, ⟨a, vs, e, q, r⟩ => ⟨a, vs, e, h _ _ q, RepFs.mono h r⟩
  | .tup _, _, ⟨a, vs, e, q, r⟩ => ⟨a, vs, e, h _ _ q, RepFs.mono h r⟩
  | .dic _, _, ⟨a, k, e, q, r⟩ => ⟨a, k, e, q.mono h (fun o z => h _ _ z), RepFk.mono h r⟩
  | .ins _ _, _, ⟨a, C, dx, fvs, e, c, q, r⟩ => ⟨a, C, dx, fvs, e, c, h _ _ q, RepFf.mono h r⟩
  | .scr _, _, ⟨a, e, q⟩ => ⟨a, e, Same.seq h q⟩
theorem RepFs.mono (h : Sub F F') : ∀ {ds : List D} {vs : List V}, RepFs Γ F ds vs → RepFs Γ F' ds vs
  | [], _, r => r
  | _ :: _, _, ⟨v, vr, e, r, s⟩ => ⟨v, vr, e, RepF.mono h r, RepFs.mono h s⟩
theorem RepFk.mono (h : Sub F F') : ∀ {ds : List (D × D)} {vs : List (D × V)}, RepFk Γ F ds vs → RepFk Γ F' ds vs
  | [], _, r => r
  | (_, _) :: _, _, ⟨v, vr, e, r, s⟩ => ⟨v, vr, e, RepF.mono h r, RepFk.mono h s⟩
theorem RepFf.mono (h : Sub F F') : ∀ {c : String} {ds : List (String × D)} {vs : List (Str × V)}, RepFf Γ F c ds vs → RepFf Γ F' c ds vs
  | _, [], _, r => r
  | _, (_, _) :: _, _, ⟨v, vr, e, c, r, s⟩ => ⟨v, vr, e, c, RepF.mono h r, RepFf.mono h s⟩
end
mutual
theorem RepO.frame (h : Sub F F') : ∀ {o : O} {v : V} {fp : List Addr}, (∀ a ∈ fp, H' a = H a) → RepO Γ F H o v fp → RepO Γ F' H' o v fp
  | .fz _, _, _, _, ⟨r, e⟩ => ⟨RepF.mono h r, e⟩
  | .lst _, _, _, k, ⟨a, vs, f, e, q, ef, r⟩ => ⟨a, vs, f, e, (k a (by rw [ef]; exact .head _)).trans q, ef, RepOs.frame h (fun b hb => k b (by rw [ef]; exact .tail _ hb)) r⟩
  | .tup _, _, _, k, ⟨a, vs, e, q, r⟩ => ⟨a, vs, e, h _ _ q, RepOs.frame h k r⟩
  | .dic _, _, _, k, ⟨a, vs, f, e, q, ef, r⟩ => ⟨a, vs, f, e, q.mono h (fun o z => (k a (by rw [ef]; exact .head _)).trans z), ef, RepOk.frame h (fun b hb => k b (by rw [ef]; exact .tail _ hb)) r⟩
  | .ins _ _, _, _, k, ⟨a, C, dx, fvs, f, e, c, q, ef, r⟩ => ⟨a, C, dx, fvs, f, e, c, (k a (by rw [ef]; exact .head _)).trans q, ef, RepOf.frame h (fun b hb => k b (by rw [ef]; exact .tail _ hb)) r⟩
theorem RepOs.frame (h : Sub F F') : ∀ {os : List O} {vs : List V} {fp : List Addr}, (∀ a ∈ fp, H' a = H a) → RepOs Γ F H os vs fp → RepOs Γ F' H' os vs fp
  | [], _, _, _, r => r
  | _ :: _, _, _, k, ⟨v, vr, f1, f2, e, ef, r, s⟩ => ⟨v, vr, f1, f2, e, ef, RepO.frame h (fun b hb => k b (by rw [ef]; exact List.mem_append_left _ hb)) r, RepOs.frame h (fun b hb => k b (by rw [ef]; exact List.mem_append_right _ hb)) s⟩
theorem RepOk.frame (h : Sub F F') : ∀ {os : List (D × O)} {vs : List (D × V)} {fp : List Addr}, (∀ a ∈ fp, H' a = H a) → RepOk Γ F H os vs fp → RepOk Γ F' H' os vs fp
  | [], _, _, _, r => r
  | (_, _) :: _, _, _, k, ⟨v, vr, f1, f2, e, ef, r, s⟩ => ⟨v, vr, f1, f2, e, ef, RepO.frame h (fun b hb => k b (by rw [ef]; exact List.mem_append_left _ hb)) r, RepOk.frame h (fun b hb => k b (by rw [ef]; exact List.mem_append_right _ hb)) s⟩
theorem RepOf.frame (h : Sub F F') : ∀ {c : String} {os : List (String × O)} {vs : List (Str × V)} {fp : List Addr}, (∀ a ∈ fp, H' a = H a) → RepOf Γ F H c os vs fp → RepOf Γ F' H' c os vs fp
  | _, [], _, _, _, r => r
  | _, (_, _) :: _, _, _, k, ⟨v, vr, f1, f2, e, c, ef, r, s⟩ => ⟨v, vr, f1, f2, e, c, ef, RepO.frame h (fun b hb => k b (by rw [ef]; exact List.mem_append_left _ hb)) r, RepOf.frame h (fun b hb => k b (by rw [ef]; exact List.mem_append_right _ hb)) s⟩
end
mutual
theorem RepO.freeze (h : Sub F F') : ∀ {o : O} {v : V} {fp : List Addr}, (∀ a ∈ fp, ∀ u, H a = some u → F' a = some u) → RepO Γ F H o v fp → RepF Γ F' o.fr v
  | .fz _, _, _, _, ⟨r, e⟩ => RepF.mono h r
  | .lst _, _, _, k, ⟨a, vs, f, e, q, ef, r⟩ => ⟨a, vs, e, k a (by rw [ef]; exact .head _) _ q, RepOs.freeze h (fun b hb => k b (by rw [ef]; exact .tail _ hb)) r⟩
  | .tup _, _, _, k, ⟨a, vs, e, q, r⟩ => ⟨a, vs, e, h _ _ q, RepOs.freeze h k r⟩
  | .dic _, _, _, k, ⟨a, vs, f, e, q, ef, r⟩ => ⟨a, vs, e, q.rd.mono h (fun o z => k a (by rw [ef]; exact .head _) _ z), RepOk.freeze h (fun b hb => k b (by rw [ef]; exact .tail _ hb)) r⟩
  | .ins _ _, _, _, k, ⟨a, C, dx, fvs, f, e, c, q, ef, r⟩ => ⟨a, C, dx, fvs, e, c, k a (by rw [ef]; exact .head _) _ q, RepOf.freeze h (fun b hb => k b (by rw [ef]; exact .tail _ hb)) r⟩
theorem RepOs.freeze (h : Sub F F') : ∀ {os : List O} {vs : List V} {fp : List Addr}, (∀ a ∈ fp, ∀ u, H a = some u → F' a = some u) → RepOs Γ F H os vs fp → RepFs Γ F' (frs os) vs
  | [], _, _, _, r => r.1
  | _ :: _, _, _, k, ⟨v, vr, f1, f2, e, ef, r, s⟩ => ⟨v, vr, e, RepO.freeze h (fun b hb => k b (by rw [ef]; exact List.mem_append_left _ hb)) r, RepOs.freeze h (fun b hb => k b (by rw [ef]; exact List.mem_append_right _ hb)) s⟩
theorem RepOk.freeze (h : Sub F F') : ∀ {os : List (D × O)} {vs : List (D × V)} {fp : List Addr}, (∀ a ∈ fp, ∀ u, H a = some u → F' a = some u) → RepOk Γ F H os vs fp → RepFk Γ F' (frk os) vs
  | [], _, _, _, r => r.1
  | (_, _) :: _, _, _, k, ⟨v, vr, f1, f2, e, ef, r, s⟩ => ⟨v, vr, e, RepO.freeze h (fun b hb => k b (by rw [ef]; exact List.mem_append_left _ hb)) r, RepOk.freeze h (fun b hb => k b (by rw [ef]; exact List.mem_append_right _ hb)) s⟩
theorem RepOf.freeze (h : Sub F F') : ∀ {c : String} {os : List (String × O)} {vs : List (Str × V)} {fp : List Addr}, (∀ a ∈ fp, ∀ u, H a = some u → F' a = some u) → RepOf Γ F H c os vs fp → RepFf Γ F' c (frf os) vs
  | _, [], _, _, _, r => r.1
  | _, (_, _) :: _, _, _, k, ⟨v, vr, f1, f2, e, c, ef, r, s⟩ => ⟨v, vr, e, c, RepO.freeze h (fun b hb => k b (by rw [ef]; exact List.mem_append_left _ hb)) r, RepOf.freeze h (fun b hb => k b (by rw [ef]; exact List.mem_append_right _ hb)) s⟩
end
/-- a look at it: all of it can be read in the whole heap -/
theorem RepO.view {o : O} {v : V} {fp : List Addr} (h : Sub F H) (r : RepO Γ F H o v fp) : RepF Γ H o.fr v := r.freeze h fun _ _ _ e => e
abbrev Bag := List (V × O)
def RepL (Γ : Wd) (F H : Hp) : Bag → List Addr → Prop
  | [], fp => fp = []
  | (v, o) :: r, fp => ∃ f1 f2, fp = f1 ++ f2 ∧ RepO Γ F H o v f1 ∧ RepL Γ F H r f2
theorem RepL.frame (h : Sub F F') : ∀ {xs : Bag} {fp : List Addr}, (∀ a ∈ fp, H' a = H a) → RepL Γ F H xs fp → RepL Γ F' H' xs fp
  | [], _, _, r => r
  | (_, _) :: _, _, k, ⟨f1, f2, ef, r, s⟩ => ⟨f1, f2, ef, RepO.frame h (fun b hb => k b (by rw [ef]; exact List.mem_append_left _ hb)) r, RepL.frame h (fun b hb => k b (by rw [ef]; exact List.mem_append_right _ hb)) s⟩
theorem RepL.append : ∀ {xs ys : Bag} {f g : List Addr}, RepL Γ F H xs f → RepL Γ F H ys g → RepL Γ F H (xs ++ ys) (f ++ g)
  | [], _, _, _, e, s => by rw [show _ = _ from e]; exact s
  | (_, _) :: _, _, _, g, ⟨f1, f2, ef, r, s⟩, t => ⟨f1, f2 ++ g, by rw [ef, List.append_assoc], r, RepL.append s t⟩
theorem RepL.split : ∀ {xs ys : Bag} {f : List Addr}, RepL Γ F H (xs ++ ys) f → ∃ f1 f2, f = f1 ++ f2 ∧ RepL Γ F H xs f1 ∧ RepL Γ F H ys f2
  | [], _, f, r => ⟨[], f, rfl, rfl, r⟩
  | (_, _) :: _, _, _, ⟨f1, f2, ef, r, s⟩ => by
    obtain ⟨g1, g2, eg, s1, s2⟩ := RepL.split s
    exact ⟨f1 ++ g1, g2, by rw [ef, eg, List.append_assoc], ⟨f1, g1, rfl, r, s1⟩, s2⟩
theorem RepL.perm {xs ys : Bag} (p : xs.Perm ys) : ∀ {f : List Addr}, RepL Γ F H xs f → ∃ g, f.Perm g ∧ RepL Γ F H ys g := by
  induction p with
  | nil => intro f r; exact ⟨f, .refl _, r⟩
  | cons x _ ih =>
    rintro f ⟨f1, f2, rfl, r, s⟩
    obtain ⟨g, pg, s'⟩ := ih s
    exact ⟨f1 ++ g, pg.append_left f1, f1, g, rfl, r, s'⟩
  | swap x y l =>
    rintro f ⟨f1, f2, rfl, r, f3, f4, rfl, r', s⟩
    refine ⟨f3 ++ (f1 ++ f4), ?_, f3, _, rfl, r', f1, f4, rfl, r, s⟩
    rw [← List.append_assoc, ← List.append_assoc]
    exact List.perm_append_comm.append_right f4
  | trans _ _ ih1 ih2 =>
    intro f r
    obtain ⟨g, p1, r1⟩ := ih1 r
    obtain ⟨g', p2, r2⟩ := ih2 r1
    exact ⟨g', p1.trans p2, r2⟩
theorem RepOs.toL : ∀ {os : List O} {vs : List V} {fp : List Addr}, RepOs Γ F H os vs fp → vs.length = os.length ∧ RepL Γ F H (vs.zip os) fp
  | [], _, _, ⟨e, f⟩ => by subst e; exact ⟨rfl, f⟩
  | _ :: _, _, _, ⟨v, vr, f1, f2, e, ef, r, s⟩ => by
    subst e
    obtain ⟨l, s'⟩ := RepOs.toL s
    exact ⟨by simp [l], f1, f2, ef, r, s'⟩
theorem RepOs.ofL : ∀ {os : List O} {vs : List V} {fp : List Addr}, vs.length = os.length → RepL Γ F H (vs.zip os) fp → RepOs Γ F H os vs fp
  | [], [], _, _, r => ⟨rfl, r⟩
  | [], _ :: _, _, l, _ => by simp at l
  | _ :: _, [], _, l, _ => by simp at l
  | _ :: _, v :: vr, _, l, ⟨f1, f2, ef, r, s⟩ => ⟨v, vr, f1, f2, rfl, ef, r, RepOs.ofL (by simpa using l) s⟩
/-- the owned ones xs stand apart, and apart from what is frozen (F), from the frame (Fr) and from the loose addresses L -/
structure G (Γ : Wd) (F Fr H : Hp) (L : List Addr) (xs : Bag) : Prop where
  sub : Sub F H
  fr : Sub Fr H
  off : ∀ a u, F a = some u → Fr a = none
  ex : ∃ fp, (fp ++ L).Nodup ∧ (∀ a ∈ fp ++ L, F a = none ∧ Fr a = none ∧ ∃ u, H a = some u) ∧ RepL Γ F H xs fp
variable {Fr : Hp} {L : List Addr} {xs ys : Bag} {v : V} {o : O}
theorem G.perm (g : G Γ F Fr H L xs) (p : xs.Perm ys) : G Γ F Fr H L ys := by
  obtain ⟨a, b, c, fp, nd, al, r⟩ := g
  obtain ⟨gp, pg, r'⟩ := r.perm p
  exact ⟨a, b, c, gp, (pg.append_right L).nodup_iff.mp nd, fun x hx => al x ((pg.append_right L).mem_iff.mpr hx), r'⟩
theorem G.tail (g : G Γ F Fr H L ((v, o) :: xs)) : G Γ F Fr H L xs := by
  obtain ⟨a, b, c, fp, nd, al, f1, f2, rfl, r, s⟩ := g
  rw [List.append_assoc] at nd al
  exact ⟨a, b, c, f2, (List.nodup_append.mp nd).2.1, fun x hx => al x (List.mem_append_right _ hx), s⟩
theorem G.drop (g : G Γ F Fr H L (ys ++ xs)) : G Γ F Fr H L xs := by
  induction ys with
  | nil => exact g
  | cons y r ih => exact ih (G.tail (v := y.1) (o := y.2) g)
theorem G.head (g : G Γ F Fr H L ((v, o) :: xs)) : ∃ fp, RepO Γ F H o v fp := by
  obtain ⟨_, _, _, fp, _, _, f1, f2, _, r, _⟩ := g
  exact ⟨f1, r⟩
theorem G.view (g : G Γ F Fr H L ((v, o) :: xs)) : RepF Γ H o.fr v := by
  obtain ⟨fp, r⟩ := g.head
  exact r.view g.sub
theorem G.fzF {d : D} (g : G Γ F Fr H L ((v, .fz d) :: xs)) : RepF Γ F d v := by
  obtain ⟨fp, r, _⟩ := g.head
  exact r
theorem G.addF {d : D} (g : G Γ F Fr H L xs) (r : RepF Γ F d v) : G Γ F Fr H L ((v, .fz d) :: xs) := by
  obtain ⟨a, b, c, fp, nd, al, s⟩ := g
  exact ⟨a, b, c, fp, nd, al, [], fp, rfl, ⟨r, rfl⟩, s⟩
def jn (F H : Hp) (fp : List Addr) : Hp := fun a => if a ∈ fp then H a else F a
theorem jn_in {F H : Hp} {fp : List Addr} {a : Addr} (h : a ∈ fp) : jn F H fp a = H a := if_pos h
theorem jn_out {F H : Hp} {fp : List Addr} {a : Addr} (h : a ∉ fp) : jn F H fp a = F a := if_neg h
theorem G.freeze (g : G Γ F Fr H L ((v, o) :: xs)) : ∃ F', Sub F F' ∧ G Γ F' Fr H L ((v, .fz o.fr) :: xs) := by
  obtain ⟨sb, fr, off, fp, nd, al, f1, f2, rfl, r, s⟩ := g
  have s1 : Sub F (jn F H f1) := fun a u e => by
    have : a ∉ f1 := fun h => by rw [(al a (by simp [h])).1] at e; cases e
    rw [jn_out this]; exact e
  rw [List.append_assoc] at nd
  have nd2 := List.nodup_append.mp nd
  refine ⟨jn F H f1, s1, ⟨fun a u e => ?_, fr, fun a u e => ?_, f2, nd2.2.1, fun x hx => ?_, [], f2, rfl, ⟨r.freeze s1 fun a ha u e => by rw [jn_in ha]; exact e, rfl⟩, s.frame s1 fun _ _ => rfl⟩⟩
  · by_cases h : a ∈ f1
    · rw [jn_in h] at e; exact e
    · rw [jn_out h] at e; exact sb a u e
  · by_cases h : a ∈ f1
    · exact (al a (by simp [h])).2.1
    · rw [jn_out h] at e; exact off a u e
  · have hx1 : x ∉ f1 := fun h => nd2.2.2 x h x hx rfl
    rw [jn_out hx1]
    exact al x (by rw [List.append_assoc]; exact List.mem_append_right _ hx)
theorem G.write {a : Addr} {u : HO} (g : G Γ F Fr H (a :: L) xs) : G Γ F Fr (upd H a u) (a :: L) xs := by
  obtain ⟨sb, fr, off, fp, nd, al, s⟩ := g
  have ha := al a (by simp)
  have hn : a ∉ fp := fun h => (List.nodup_append.mp nd).2.2 a h a (.head _) rfl
  refine ⟨fun x w e => ?_, fun x w e => ?_, off, fp, nd, fun x hx => ?_, s.frame (Sub.refl _) fun x hx => upd_ne fun z => hn (z ▸ hx)⟩
  · rw [upd_ne fun z => by subst z; rw [ha.1] at e; cases e]; exact sb x w e
  · rw [upd_ne fun z => by subst z; rw [ha.2.1] at e; cases e]; exact fr x w e
  · obtain ⟨p, q, w, hw⟩ := al x hx
    refine ⟨p, q, ?_⟩
    by_cases hxa : x = a
    · subst hxa; exact ⟨u, upd_same⟩
    · exact ⟨w, by rw [upd_ne hxa]; exact hw⟩
theorem G.new {p : Addr} {u : HO} (g : G Γ F Fr H L xs) (hp : H p = none) : G Γ F Fr (upd H p u) (p :: L) xs := by
  obtain ⟨sb, fr, off, fp, nd, al, s⟩ := g
  have hF : F p = none := by
    cases e : F p with
    | none => rfl
    | some w => rw [sb p w e] at hp; cases hp
  have hFr : Fr p = none := by
    cases e : Fr p with
    | none => rfl
    | some w => rw [fr p w e] at hp; cases hp
  have hne : ∀ x ∈ fp ++ L, x ≠ p := fun x hx z => by
    obtain ⟨_, _, w, hw⟩ := al x hx
    rw [z, hp] at hw; cases hw
  refine ⟨sb.trans (Sub.new hp), fr.trans (Sub.new hp), off, fp, ?_, fun x hx => ?_, s.frame (Sub.refl _) fun x hx => upd_ne (hne x (List.mem_append_left _ hx))⟩
  · exact List.perm_middle.nodup_iff.mpr (List.nodup_cons.mpr ⟨fun h => hne p h rfl, nd⟩)
  · rcases List.mem_cons.mp (List.perm_middle.mem_iff.mp hx) with rfl | hx
    · exact ⟨hF, hFr, u, upd_same⟩
    · obtain ⟨a1, a2, w, hw⟩ := al x hx
      exact ⟨a1, a2, w, by rw [upd_ne (hne x hx)]; exact hw⟩
/-- what is new and never changes goes to the frozen -/
theorem G.newF {p : Addr} {u : HO} (g : G Γ F Fr H L xs) (hp : H p = none) : G Γ (upd F p u) Fr (upd H p u) L xs := by
  obtain ⟨sb, fr, off, fp, nd, al, s⟩ := g
  have hF : F p = none := by
    cases e : F p with
    | none => rfl
    | some w => rw [sb p w e] at hp; cases hp
  have hFr : Fr p = none := by
    cases e : Fr p with
    | none => rfl
    | some w => rw [fr p w e] at hp; cases hp
  have hne : ∀ x ∈ fp ++ L, x ≠ p := fun x hx z => by
    obtain ⟨_, _, w, hw⟩ := al x hx
    rw [z, hp] at hw; cases hw
  refine ⟨sb.both, fr.trans (Sub.new hp), fun a w e => ?_, fp, nd, fun x hx => ?_, s.frame (Sub.new hF) fun x hx => upd_ne (hne x (List.mem_append_left _ hx))⟩
  · by_cases h : a = p
    · subst h; exact hFr
    · rw [upd_ne h] at e; exact off a w e
  · obtain ⟨a1, a2, w, hw⟩ := al x hx
    exact ⟨by rw [upd_ne (hne x hx)]; exact a1, a2, w, by rw [upd_ne (hne x hx)]; exact hw⟩
theorem G.newSub {p : Addr} {u : HO} (g : G Γ F Fr H L xs) (hp : H p = none) : Sub F (upd F p u) := Sub.new (by
  cases e : F p with
  | none => rfl
  | some w => rw [g.sub p w e] at hp; cases hp)
/-- a list is opened: its address is loose, its items stand by themselves -/
theorem G.openL {os : List O} (g : G Γ F Fr H L ((v, .lst os) :: xs)) : ∃ a vs, v = .ref a ∧ H a = some (.lst vs) ∧ vs.length = os.length ∧ G Γ F Fr H (a :: L) (vs.zip os ++ xs) := by
  obtain ⟨sb, fr, off, fp, nd, al, f1, f2, rfl, ⟨a, vs, f, e, q, rfl, r⟩, s⟩ := g
  obtain ⟨l, r'⟩ := r.toL
  have p : ((a :: f) ++ f2 ++ L).Perm (f ++ f2 ++ (a :: L)) := by
    show (a :: (f ++ f2 ++ L)).Perm (f ++ f2 ++ (a :: L))
    exact List.perm_middle.symm
  exact ⟨a, vs, e, q, l, ⟨sb, fr, off, f ++ f2, p.nodup_iff.mp nd, fun x hx => al x (p.mem_iff.mpr hx), r'.append s⟩⟩
theorem G.closeL {os : List O} {vs : List V} {a : Addr} (g : G Γ F Fr H (a :: L) (vs.zip os ++ xs)) (h : H a = some (.lst vs)) (l : vs.length = os.length) : G Γ F Fr H L ((.ref a, .lst os) :: xs) := by
  obtain ⟨sb, fr, off, fp, nd, al, r⟩ := g
  obtain ⟨f1, f2, rfl, r1, r2⟩ := r.split
  have p : ((a :: f1) ++ f2 ++ L).Perm (f1 ++ f2 ++ (a :: L)) := by
    show (a :: (f1 ++ f2 ++ L)).Perm (f1 ++ f2 ++ (a :: L))
    exact List.perm_middle.symm
  exact ⟨sb, fr, off, (a :: f1) ++ f2, p.nodup_iff.mpr nd, fun x hx => al x (p.mem_iff.mp hx), a :: f1, f2, rfl, ⟨a, vs, f1, rfl, h, rfl, .ofL l r1⟩, r2⟩
end
end FA
namespace FA
open PySem L2
def live : St → Env → Bag
  | some v :: σ, some o :: ρ => (v, o) :: live σ ρ
  | _ :: σ, _ :: ρ => live σ ρ
  | _, _ => []
def SlotsOk : St → Env → Prop
  | v :: σ, o :: ρ => (∀ x, o = some x → ∃ y, v = some y) ∧ SlotsOk σ ρ
  | [], [] => True
  | _, _ => False
theorem SlotsOk.len : ∀ {σ : St} {ρ : Env}, SlotsOk σ ρ → σ.length = ρ.length
  | [], [], _ => rfl
  | _ :: _, _ :: _, h => by simp [SlotsOk.len h.2]
  | [], _ :: _, h => h.elim
  | _ :: _, [], h => h.elim
theorem SlotsOk.get : ∀ {σ : St} {ρ : Env} {i : Nat} {o : O}, SlotsOk σ ρ → ρ[i]? = some (some o) → ∃ v, σ[i]? = some (some v)
  | _ :: _, _ :: _, 0, o, h, e => by
    obtain ⟨y, hy⟩ := h.1 o (by simpa using e)
    exact ⟨y, by simp [hy]⟩
  | _ :: _, _ :: _, i + 1, o, h, e => by simpa using SlotsOk.get (i := i) h.2 (by simpa using e)
  | [], [], _, _, _, e => by simp at e
  | [], _ :: _, _, _, h, _ => h.elim
  | _ :: _, [], _, _, h, _ => h.elim
theorem SlotsOk.hid : ∀ {σ : St} {ρ : Env} (i : Nat), SlotsOk σ ρ → SlotsOk σ (ρ.set i none)
  | [], [], _, h => h
  | v :: σ, o :: ρ, 0, h => ⟨fun x z => (nomatch z), h.2⟩
  | v :: σ, o :: ρ, i + 1, h => ⟨h.1, SlotsOk.hid i h.2⟩
  | [], _ :: _, _, h => h.elim
  | _ :: _, [], _, h => h.elim
theorem SlotsOk.set : ∀ {σ : St} {ρ : Env} {i : Nat} {v : V} {o : O}, SlotsOk σ ρ → SlotsOk (σ.set i (some v)) (ρ.set i (some o))
  | [], [], _, _, _, h => h
  | _ :: σ, _ :: ρ, 0, v, o, h => ⟨fun x z => ⟨v, rfl⟩, h.2⟩
  | _ :: σ, _ :: ρ, i + 1, v, o, h => ⟨h.1, SlotsOk.set (i := i) h.2⟩
  | [], _ :: _, _, _, _, h => h.elim
  | _ :: _, [], _, _, _, h => h.elim
theorem SlotsOk.put : ∀ {σ : St} {ρ : Env} {i : Nat} {v : V} {o : O}, SlotsOk σ ρ → σ[i]? = some (some v) → SlotsOk σ (ρ.set i (some o))
  | [], [], _, _, _, h, _ => h
  | _ :: σ, _ :: ρ, 0, v, o, h, e => ⟨fun x z => ⟨v, by simpa using e⟩, h.2⟩
  | _ :: σ, _ :: ρ, i + 1, v, o, h, e => ⟨h.1, SlotsOk.put (i := i) (v := v) h.2 (by simpa using e)⟩
  | [], _ :: _, _, _, _, h, _ => h.elim
  | _ :: _, [], _, _, _, h, _ => h.elim
theorem live_get : ∀ {σ : St} {ρ : Env} {i : Nat} {v : V} {o : O}, SlotsOk σ ρ → ρ[i]? = some (some o) → σ[i]? = some (some v) → (live σ ρ).Perm ((v, o) :: live σ (ρ.set i none))
  | [], [], _, _, _, _, e, _ => by simp at e
  | a :: σ, b :: ρ, 0, v, o, h, e, e' => by
    have e1 : b = some o := by simpa using e
    have e2 : a = some v := by simpa using e'
    subst e1 e2
    show ((v, o) :: live σ ρ).Perm ((v, o) :: live (some v :: σ) (none :: ρ))
    exact .refl _
  | a :: σ, b :: ρ, i + 1, v, o, h, e, e' => by
    have ih := live_get (i := i) (v := v) (o := o) h.2 (by simpa using e) (by simpa using e')
    cases a with
    | none =>
      cases b with
      | none => exact ih
      | some o' => obtain ⟨y, z⟩ := h.1 o' rfl; cases z
    | some v' =>
      cases b with
      | none => exact ih
      | some o' => exact (ih.cons _).trans (.swap _ _ _)
  | [], _ :: _, _, _, _, h, _, _ => h.elim
  | _ :: _, [], _, _, _, h, _, _ => h.elim
theorem live_none_set : ∀ (σ : St) (ρ : Env) (i : Nat) (x : Option V), live (σ.set i x) (ρ.set i none) = live σ (ρ.set i none)
  | [], _, _, _ => rfl
  | a :: σ, [], 0, x => by cases a <;> cases x <;> rfl
  | a :: σ, [], i + 1, x => by cases a <;> rfl
  | a :: σ, b :: ρ, 0, x => by cases a <;> cases x <;> rfl
  | a :: σ, b :: ρ, i + 1, x => by
    show live (a :: σ.set i x) (b :: ρ.set i none) = live (a :: σ) (b :: ρ.set i none)
    have ih := live_none_set σ ρ i x
    cases a with
    | none => exact ih
    | some v =>
      cases b with
      | none => exact ih
      | some o => exact congrArg ((v, o) :: ·) ih
theorem set_get {α : Type} : ∀ {l : List α} {i : Nat} {x : α}, l[i]? = some x → l.set i x = l
  | [], _, _, e => by simp at e
  | a :: r, 0, x, e => by simp at e; simp [e]
  | a :: r, i + 1, x, e => by simp at e; simp [set_get e]
theorem live_drop {σ : St} {ρ : Env} (i : Nat) (h : SlotsOk σ ρ) : live σ (ρ.set i none) = live σ ρ ∨ ∃ p, (live σ ρ).Perm (p :: live σ (ρ.set i none)) := by
  cases e : ρ[i]? with
  | none =>
    left
    rw [List.set_eq_of_length_le (List.getElem?_eq_none_iff.mp e)]
  | some x =>
    cases x with
    | none => left; rw [set_get e]
    | some o =>
      obtain ⟨v, hv⟩ := h.get e
      exact .inr ⟨(v, o), live_get h e hv⟩
section
variable (Γ : Wd)
structure GS (F Fr H : Hp) (σ : St) (ρ : Env) (ts : Bag) : Prop where
  ok : SlotsOk σ ρ
  g : G Γ F Fr H [] (ts ++ live σ ρ)
/-- an error of one of the own classes: its object's dict -/
def ExcAt (F : Hp) (x : String) (ds : List D) (cls : Value) (dx : Option Addr) : Prop :=
  ∃ d fvs, cls = .ref (He.ga Γ.K (Str.ofString x)) ∧ dx = some d ∧ F d = some (.xd (List.reverse fvs)) ∧ fvs.map (·.1) = (fieldsOf x).map Str.ofString ∧ RepFs Γ F ds (fvs.map (·.2))
/-- what is wanted of an outcome: Q of what came, W of an error -/
def Post {α : Type} (W : WX) (σ : St) (F Fr : Hp) (ts : Bag) (Q : α → Env → Hp → Hp → Prop) : R α → Prop
  | .ok o ρ' => ∀ F' H', Sub F F' → Q o ρ' F' H'
  | .exc x ds ρ' => ∀ cls dx F' H', Sub F F' → GS Γ F' Fr H' σ ρ' ts → ExcAt Γ F' x ds cls dx → W cls dx σ H'
  | .st => False
def QE (σ : St) (Fr : Hp) (ts : Bag) (Q : VK) : O → Env → Hp → Hp → Prop := fun o ρ' F' H' => ∀ v, GS Γ F' Fr H' σ ρ' ((v, o) :: ts) → Q v H'
def QT (σ : St) (Fr : Hp) (ts : Bag) (Q : Bool → Hp → Prop) : Bool → Env → Hp → Hp → Prop := fun b ρ' F' H' => GS Γ F' Fr H' σ ρ' ts → Q b H'
def QA (σ : St) (Fr : Hp) (ts : Bag) (Q : List V → Hp → Prop) : List O → Env → Hp → Hp → Prop := fun os ρ' F' H' => ∀ vs, vs.length = os.length → GS Γ F' Fr H' σ ρ' (vs.zip os ++ ts) → Q vs H'
def tD (W : WX) (c : Ex) : TE := fun σ H Q => ∃ ρ F Fr ts, GS Γ F Fr H σ ρ ts ∧ Post Γ W σ F Fr ts (QE Γ σ Fr ts Q) (c ρ)
def tDT (W : WX) (c : Tx) : TT := fun σ H Q => ∃ ρ F Fr ts, GS Γ F Fr H σ ρ ts ∧ Post Γ W σ F Fr ts (QT Γ σ Fr ts Q) (c ρ)
/-- what is only read -/
def tDP (p : Px) : TE := fun σ H Q => ∃ ρ F Fr ts o, GS Γ F Fr H σ ρ ts ∧ p ρ = some o ∧ ∀ v F' H' fp, Sub F F' → Sub H H' → GS Γ F' Fr H' σ ρ ts → RepO Γ F' H' o v fp → Q v H'
def tDA (W : WX) (es : List Ex) : TA := fun σ H Q => ∃ ρ F Fr ts, GS Γ F Fr H σ ρ ts ∧ Post Γ W σ F Fr ts (QA Γ σ Fr ts Q) (eAll es ρ)
def Kept (kp : List Nat) (σ σ' : St) : Prop := ∀ i ∈ kp, σ'[i]? = σ[i]?
/-- what is wanted of a flow -/
def FlowP (W : WX) (kp : List Nat) (D : Ends) (σ : St) (F Fr : Hp) (ts : Bag) : R Flow → Prop
  | .ok f ρ' => match f with
    | .nx => ∀ σ' F' H', Kept kp σ σ' → Sub F F' → GS Γ F' Fr H' σ' ρ' ts → D.nx σ' H'
    | .brk => ∀ σ' F' H', Kept kp σ σ' → Sub F F' → GS Γ F' Fr H' σ' ρ' ts → D.bk σ' H'
    | .ret o => ∀ v σ' F' H', Kept kp σ σ' → Sub F F' → GS Γ F' Fr H' σ' ρ' ((v, o) :: ts) → D.rt v H'
  | .exc x ds ρ' => ∀ cls dx σ' F' H', Kept kp σ σ' → Sub F F' → GS Γ F' Fr H' σ' ρ' ts → ExcAt Γ F' x ds cls dx → W cls dx σ' H'
  | .st => False
def tDS (W : WX) (kp : List Nat) (s : Stx) : TS := fun D σ H => ∃ ρ F Fr ts, GS Γ F Fr H σ ρ ts ∧ FlowP Γ W kp D σ F Fr ts (s ρ)
/-- J walks over ds -/
structure Wk (J : It) (F : Hp) (ds : List D) : Prop where
  go : ∀ i H, Sub F H → i < ds.length → J.go i H
  stop : ∀ i H, Sub F H → ds.length ≤ i → J.stop i H
  yld : ∀ i H x H' F1 Fr L its d, Sub F F1 → G Γ F1 Fr H L its → ds[i]? = some d → J.yld i H x H' → ∃ F2, Sub F1 F2 ∧ G Γ F2 Fr H' L ((x, .fz d) :: its)
def QI (σ : St) (Fr : Hp) (ts : Bag) (R' : It → Hp → Prop) : List D → Env → Hp → Hp → Prop := fun ds ρ' F' H' => ∀ J, GS Γ F' Fr H' σ ρ' ts → Wk Γ J F' ds → R' J H'
def tDI (W : WX) (it : Itx) : TI := fun σ H R' => ∃ ρ F Fr ts, GS Γ F Fr H σ ρ ts ∧ Post Γ W σ F Fr ts (QI Γ σ Fr ts R') (it ρ)
end
section
variable {X : Cx} {Γ : Wd} {W : WX} {e a b c : Expr}
abbrev DenE (X : Cx) (Γ : Wd) (W : WX) (e : Expr) (c : Ex) : Prop := PE X e (tD Γ W c)
abbrev DenT (X : Cx) (Γ : Wd) (W : WX) (e : Expr) (c : Tx) : Prop := PT X e (tDT Γ W c)
abbrev DenP (X : Cx) (Γ : Wd) (e : Expr) (c : Px) : Prop := PE X e (tDP Γ c)
abbrev DenA (X : Cx) (Γ : Wd) (W : WX) (es : List Expr) (cs : List Ex) : Prop := PA X es (tDA Γ W cs)
abbrev DenI (X : Cx) (Γ : Wd) (W : WX) (tg e : Expr) (c : Itx) : Prop := PI X tg e (tDI Γ W c)
abbrev DenS (X : Cx) (Γ : Wd) (W : WX) (kp : List Nat) (st : Stmt) (s : Stx) : Prop := PS X st (tDS Γ W kp s)
abbrev DenSs (X : Cx) (Γ : Wd) (W : WX) (kp : List Nat) (st : List Stmt) (s : Stx) : Prop := PSs X st (tDS Γ W kp s)
theorem pe_imp {t t' : TE} (h : PE X e t) (i : ∀ σ H Q, t' σ H Q → t σ H Q) : PE X e t' := ⟨fun pins s σ H Q I q => h.run pins s σ H Q I (i σ H Q q)⟩
theorem pt_imp {t t' : TT} (h : PT X e t) (i : ∀ σ H Q, t' σ H Q → t σ H Q) : PT X e t' := ⟨fun pins s σ H Q I q => h.run pins s σ H Q I (i σ H Q q)⟩
theorem pa_imp {es : List Expr} {t t' : TA} (h : PA X es t) (i : ∀ σ H Q, t' σ H Q → t σ H Q) : PA X es t' := ⟨fun pos pins s σ H Q I q => h.run pos pins s σ H Q I (i σ H Q q)⟩
theorem ps_imp {st : Stmt} {t t' : TS} (h : PS X st t) (i : ∀ D σ H, t' D σ H → t D σ H) : PS X st t' := ⟨fun pins s σ H D I q => h.run pins s σ H D I (i D σ H q)⟩
theorem pss_imp {st : List Stmt} {t t' : TS} (h : PSs X st t) (i : ∀ D σ H, t' D σ H → t D σ H) : PSs X st t' := ⟨fun pins s σ H D I q => h.run pins s σ H D I (i D σ H q)⟩
theorem pi_imp {tg : Expr} {t t' : TI} (h : PI X tg e t) (i : ∀ σ H R, t' σ H R → t σ H R) : PI X tg e t' := ⟨fun pins s σ H R I q => h.run pins s σ H R I (i σ H R q)⟩
theorem pe_alt {t u : TE} (h : PE X e t) (h' : PE X e u) : PE X e (fun σ H Q => t σ H Q ∨ u σ H Q) := ⟨fun pins s σ H Q I q => q.elim (h.run pins s σ H Q I) (h'.run pins s σ H Q I)⟩
theorem pi_alt {tg : Expr} {t u : TI} (h : PI X tg e t) (h' : PI X tg e u) : PI X tg e (fun σ H Q => t σ H Q ∨ u σ H Q) := ⟨fun pins s σ H Q I q => q.elim (h.run pins s σ H Q I) (h'.run pins s σ H Q I)⟩
variable {F F' Fr H H' : Hp} {σ : St} {ρ ρ' : Env} {ts : Bag} {v : V} {o : O}
theorem GS.sub (g : GS Γ F Fr H σ ρ ts) : Sub F H := g.g.sub
theorem GS.perm {us : Bag} (g : GS Γ F Fr H σ ρ ts) (p : ts.Perm us) : GS Γ F Fr H σ ρ us := ⟨g.ok, g.g.perm (p.append_right _)⟩
theorem GS.tail {p : V × O} (g : GS Γ F Fr H σ ρ (p :: ts)) : GS Γ F Fr H σ ρ ts := ⟨g.ok, G.tail (v := p.1) (o := p.2) g.g⟩
theorem GS.drop {us : Bag} (g : GS Γ F Fr H σ ρ (us ++ ts)) : GS Γ F Fr H σ ρ ts := ⟨g.ok, G.drop (ys := us) (by have := g.g; rwa [List.append_assoc] at this)⟩
theorem GS.view (g : GS Γ F Fr H σ ρ ((v, o) :: ts)) : RepF Γ H o.fr v := G.view g.g
theorem GS.fzF {d : D} (g : GS Γ F Fr H σ ρ ((v, .fz d) :: ts)) : RepF Γ F d v := G.fzF g.g
theorem GS.addF {d : D} (g : GS Γ F Fr H σ ρ ts) (r : RepF Γ F d v) : GS Γ F Fr H σ ρ ((v, .fz d) :: ts) := ⟨g.ok, G.addF g.g r⟩
theorem GS.freeze (g : GS Γ F Fr H σ ρ ((v, o) :: ts)) : ∃ F', Sub F F' ∧ GS Γ F' Fr H σ ρ ((v, .fz o.fr) :: ts) := by
  obtain ⟨F', s, g'⟩ := G.freeze g.g
  exact ⟨F', s, g.ok, g'⟩
/-- a slot's tree, taken -/
theorem GS.take {i : Nat} (g : GS Γ F Fr H σ ρ ts) (h : ρ[i]? = some (some o)) : ∃ v, σ[i]? = some (some v) ∧ GS Γ F Fr H σ (ρ.set i none) ((v, o) :: ts) := by
  obtain ⟨v, hv⟩ := g.ok.get h
  refine ⟨v, hv, g.ok.hid i, g.g.perm ?_⟩
  exact ((live_get g.ok h hv).append_left ts).trans List.perm_middle
theorem GS.takeAt {i : Nat} (g : GS Γ F Fr H σ ρ ts) (h : ρ[i]? = some (some o)) (hv : σ[i]? = some (some v)) : GS Γ F Fr H σ (ρ.set i none) ((v, o) :: ts) := by
  obtain ⟨v', hv', g'⟩ := g.take h
  rw [hv] at hv'; cases hv'; exact g'
/-- put back where its value still stands -/
theorem GS.put {i : Nat} (g : GS Γ F Fr H σ (ρ.set i none) ((v, o) :: ts)) (hi : i < ρ.length) (hv : σ[i]? = some (some v)) : GS Γ F Fr H σ (ρ.set i (some o)) ts := by
  have ok : SlotsOk σ (ρ.set i (some o)) := by
    have := SlotsOk.put (o := o) g.ok hv
    rwa [List.set_set] at this
  refine ⟨ok, g.g.perm ?_⟩
  have p := live_get (i := i) (o := o) ok (by simp [hi]) hv
  rw [List.set_set] at p
  exact (List.perm_middle (l₁ := ts)).symm.trans (p.symm.append_left ts)
/-- stored anew -/
theorem GS.store {i : Nat} (g : GS Γ F Fr H σ ρ ((v, o) :: ts)) (hi : i < ρ.length) : GS Γ F Fr H (σ.set i (some v)) (ρ.set i (some o)) ts := by
  have ok : SlotsOk (σ.set i (some v)) (ρ.set i (some o)) := g.ok.set
  have hσ : i < σ.length := by rw [g.ok.len]; exact hi
  refine ⟨ok, ?_⟩
  have p := live_get (i := i) (v := v) (o := o) ok (by simp [hi]) (by simp [hσ])
  rw [List.set_set, live_none_set] at p
  have g2 : G Γ F Fr H [] ((v, o) :: (ts ++ live σ (ρ.set i none))) := by
    rcases live_drop i g.ok with e | ⟨q, e⟩
    · rw [e]; exact g.g
    · have p2 : (((v, o) :: ts) ++ live σ ρ).Perm (q :: ((v, o) :: (ts ++ live σ (ρ.set i none)))) := by
        refine (e.append_left ((v, o) :: ts)).trans ?_
        exact List.perm_middle
      exact G.tail (v := q.1) (o := q.2) (g.g.perm p2)
  exact g2.perm ((List.perm_middle (l₁ := ts)).symm.trans (p.symm.append_left ts))
theorem GS.forget1 {i : Nat} (g : GS Γ F Fr H σ ρ ts) : GS Γ F Fr H σ (ρ.set i none) ts := by
  refine ⟨g.ok.hid i, ?_⟩
  rcases live_drop i g.ok with e | ⟨q, e⟩
  · rw [e]; exact g.g
  · exact G.tail (v := q.1) (o := q.2) (g.g.perm ((e.append_left ts).trans List.perm_middle))
theorem zipFz : ∀ {ds : List D} {vs : List V} {L : List Addr} {xs : Bag}, RepFs Γ F ds vs → G Γ F Fr H L xs → G Γ F Fr H L (vs.zip (ds.map .fz) ++ xs)
  | [], _, _, _, e, g => by rw [show _ = _ from e]; exact g
  | d :: r, _, _, _, ⟨v, vr, e, p, q⟩, g => by
    subst e
    exact (zipFz q g).addF p
theorem RepFs.len : ∀ {ds : List D} {vs : List V}, RepFs Γ F ds vs → vs.length = ds.length
  | [], _, e => by rw [show _ = _ from e]; rfl
  | _ :: _, _, ⟨_, _, e, _, q⟩ => by subst e; simp [RepFs.len q]
theorem RepFs.app : ∀ {ds es : List D} {vs ws : List V}, RepFs Γ F ds vs → RepFs Γ F es ws → RepFs Γ F (ds ++ es) (vs ++ ws)
  | [], _, _, _, e, q => by rw [show _ = _ from e]; exact q
  | _ :: _, _, _, _, ⟨v, vr, e, p, q⟩, r => by subst e; exact ⟨v, vr ++ _, rfl, p, q.app r⟩
theorem RepFs.get : ∀ {ds : List D} {vs : List V} {i : Nat} {d : D}, RepFs Γ F ds vs → ds[i]? = some d → ∃ v, vs[i]? = some v ∧ RepF Γ F d v
  | [], _, _, _, _, e => by simp at e
  | x :: _, _, 0, d, ⟨v, vr, e, p, _⟩, h => by subst e; simp at h; subst h; exact ⟨v, by simp, p⟩
  | _ :: _, _, i + 1, d, ⟨v, vr, e, _, q⟩, h => by subst e; simpa using RepFs.get (i := i) q (by simpa using h)
theorem RepFs.take : ∀ {ds : List D} {vs : List V} (n : Nat), RepFs Γ F ds vs → RepFs Γ F (ds.take n) (vs.take n)
  | [], _, n, e => by rw [show _ = _ from e]; simp [RepFs]
  | _ :: _, _, 0, _ => rfl
  | _ :: _, _, n + 1, ⟨v, vr, e, p, q⟩ => by subst e; exact ⟨v, vr.take n, rfl, p, q.take n⟩
theorem RepFs.dropN : ∀ {ds : List D} {vs : List V} (n : Nat), RepFs Γ F ds vs → RepFs Γ F (ds.drop n) (vs.drop n)
  | [], _, n, e => by rw [show _ = _ from e]; simp [RepFs]
  | _ :: _, _, 0, r => r
  | _ :: _, _, n + 1, ⟨v, vr, e, p, q⟩ => by subst e; exact q.dropN n
theorem G.mkL {ds : List D} {vs : List V} {L : List Addr} {xs : Bag} {p : Addr} (g : G Γ F Fr H L xs) (r : RepFs Γ F ds vs) (hp : H p = none) : G Γ F Fr (upd H p (.lst vs)) L ((.ref p, .lst (ds.map .fz)) :: xs) :=
  G.closeL (zipFz r (g.new hp)) upd_same (by rw [RepFs.len r]; simp)
theorem G.mkT {ds : List D} {vs : List V} {L : List Addr} {xs : Bag} {p : Addr} (g : G Γ F Fr H L xs) (r : RepFs Γ F ds vs) (hp : H p = none) : ∃ F', Sub F F' ∧ G Γ F' Fr (upd H p (.tup vs)) L ((.ref p, .fz (.tup ds)) :: xs) :=
  ⟨_, g.newSub hp, (g.newF hp).addF ⟨p, vs, rfl, upd_same, RepFs.mono (g.newSub hp) r⟩⟩
theorem G.mkLO {os : List O} {vs : List V} {L : List Addr} {xs : Bag} {p : Addr} (g : G Γ F Fr H L (vs.zip os ++ xs)) (l : vs.length = os.length) (hp : H p = none) : G Γ F Fr (upd H p (.lst vs)) L ((.ref p, .lst os) :: xs) :=
  G.closeL (g.new hp) upd_same l
theorem Post.mono {α : Type} {Q Q' : α → Env → Hp → Hp → Prop} {r : R α} (m : Post Γ W σ F Fr ts Q r) (h : ∀ o ρ F' H', Sub F F' → Q o ρ F' H' → Q' o ρ F' H') : Post Γ W σ F Fr ts Q' r := by
  cases r with
  | ok o ρ' => exact fun F' H' s => h _ _ _ _ s (m F' H' s)
  | exc x ds ρ' => exact m
  | st => exact m
theorem Post.monoE {α : Type} {Q Q' : α → Env → Hp → Hp → Prop} {r : R α} (m : Post Γ W σ F Fr ts Q r) (h : ∀ o ρ F' H', r = .ok o ρ → Sub F F' → Q o ρ F' H' → Q' o ρ F' H') : Post Γ W σ F Fr ts Q' r := by
  cases r with
  | ok o ρ' => exact fun F' H' s => h _ _ _ _ rfl s (m F' H' s)
  | exc x ds ρ' => exact m
  | st => exact m
theorem Post.up {α : Type} {Q : α → Env → Hp → Hp → Prop} {r : R α} (s : Sub F F') (m : Post Γ W σ F Fr ts Q r) : Post Γ W σ F' Fr ts Q r := by
  cases r with
  | ok o ρ' => exact fun F2 H' s' => m F2 H' (s.trans s')
  | exc x ds ρ' => exact fun c d F2 H' s' => m c d F2 H' (s.trans s')
  | st => exact m
/-- one thing after another: us are what stands on the way -/
theorem Post.bind {α β : Type} {Q : β → Env → Hp → Hp → Prop} {r : R α} {k : α → Env → R β} (us : Bag) (m : Post Γ W σ F Fr ts Q (r.bind k)) :
    Post Γ W σ F Fr (us ++ ts) (fun o ρ F' _ => Post Γ W σ F' Fr ts Q (k o ρ)) r := by
  cases r with
  | ok o ρ' => exact fun F' H' s => Post.up s m
  | exc x ds ρ' => exact fun c d F' H' s g => m c d F' H' s g.drop
  | st => exact m
theorem Post.bind0 {α β : Type} {Q : β → Env → Hp → Hp → Prop} {r : R α} {k : α → Env → R β} (m : Post Γ W σ F Fr ts Q (r.bind k)) :
    Post Γ W σ F Fr ts (fun o ρ F' _ => Post Γ W σ F' Fr ts Q (k o ρ)) r := Post.bind [] m
theorem Post.opt {α : Type} {Q : α → Env → Hp → Hp → Prop} {x : Option α} (m : Post Γ W σ F Fr ts Q (ofOpt x ρ)) : ∃ a, x = some a ∧ ∀ F' H', Sub F F' → Q a ρ F' H' := by
  cases x with
  | none => exact False.elim m
  | some a => exact ⟨a, rfl, m⟩
end
end FA
namespace FA
open PySem L2
theorem line_eq : line = sizeLine := by rw [sizeLine_eq]; rfl
theorem Str'_app (a b : List Nat) : Str' a ++ Str' b = Str' (a ++ b) := by
  show Str.append (Str' a) (Str' b) = Str' (a ++ b)
  unfold Str.append Str'
  simp
theorem Str'_len (a : List Nat) : (Str' a).length = a.length := by simp [Str', Str.length]
theorem Str'_inj {a b : List Nat} : Str' a = Str' b ↔ a = b := by
  constructor
  · intro h
    have : (Str' a).cps.toList = (Str' b).cps.toList := by rw [h]
    simpa [Str'] using this
  · rintro rfl; rfl
section
variable {X : Cx} {Γ : Wd} {F F' Fr H H' : Hp} {L : List Addr} {its : Bag} {v w : V}
/-- an operation on two values does what op says -/
def Op2S (X : Cx) (Γ : Wd) (f : Value → Value → PySem.Sem Value) (op : Op2) : Prop :=
  ∃ r : R2, OpR X f r ∧ ∀ {F Fr H : Hp} {L : List Addr} {its : Bag} {v1 v2 : V} {o1 o2 o : O} {Q : VK}, G Γ F Fr H L ((v2, o2) :: (v1, o1) :: its) → op o1.fr o2.fr = some o →
    (∀ v F' H', Sub F F' → G Γ F' Fr H' L ((v, o) :: its) → Q v H') → r v1 v2 H Q
/-- a one-place one: a call of a built-in with one argument -/
def Op1C (X : Cx) (Γ : Wd) (f : Value) (op : Op1) : Prop :=
  ∃ r, CallR X f r ∧ ∀ {F Fr H : Hp} {L : List Addr} {its : Bag} {v1 : V} {o1 o : O} {Q : VK}, G Γ F Fr H L ((v1, o1) :: its) → op o1.fr = some o →
    (∀ v F' H', Sub F F' → G Γ F' Fr H' L ((v, o) :: its) → Q v H') → r [v1] H Q
theorem G.view1 {v1 v2 : V} {o1 o2 : O} (g : G Γ F Fr H L ((v2, o2) :: (v1, o1) :: its)) : RepF Γ H o1.fr v1 := G.view (G.tail g)
theorem G.tail2 {v1 v2 : V} {o1 o2 : O} (g : G Γ F Fr H L ((v2, o2) :: (v1, o1) :: its)) : G Γ F Fr H L its := G.tail (G.tail g)
/-- both frozen -/
theorem G.freeze2 {v1 v2 : V} {o1 o2 : O} (g : G Γ F Fr H L ((v2, o2) :: (v1, o1) :: its)) : ∃ F', Sub F F' ∧ G Γ F' Fr H L its ∧ RepF Γ F' o1.fr v1 ∧ RepF Γ F' o2.fr v2 := by
  obtain ⟨F1, s1, g1⟩ := G.freeze g
  have r2 := G.fzF g1
  obtain ⟨F2, s2, g2⟩ := G.freeze (G.tail g1)
  exact ⟨F2, s1.trans s2, G.tail g2, G.fzF g2, RepF.mono s2 r2⟩
theorem G.freeze1 {v1 : V} {o1 : O} (g : G Γ F Fr H L ((v1, o1) :: its)) : ∃ F', Sub F F' ∧ G Γ F' Fr H L its ∧ RepF Γ F' o1.fr v1 := by
  obtain ⟨F1, s1, g1⟩ := G.freeze g
  exact ⟨F1, s1, G.tail g1, G.fzF g1⟩
mutual
def pyD : D → PyData
  | .non => .none
  | .bl b => .bool b
  | .int i => .int i
  | .str s => .str (Str' s)
  | .lst ds => .list (pyDs ds)
  | .tup ds => .tuple (pyDs ds)
  | .dic _ => .none
  | .ins _ _ => .none
  | .scr _ => .none
def pyDs : List D → List PyData
  | [] => []
  | d :: r => pyD d :: pyDs r
end
theorem pyDs_map : ∀ ds : List D, pyDs ds = ds.map pyD
  | [] => rfl
  | d :: r => by simp [pyDs, pyDs_map r]
theorem pyD_lst (ds : List D) : pyD (.lst ds) = .list (ds.map pyD) := by simp [pyD, pyDs_map]
theorem pyD_tup (ds : List D) : pyD (.tup ds) = .tuple (ds.map pyD) := by simp [pyD, pyDs_map]
theorem dp_of : ∀ (n : Nat) {d : D} {v : V}, plainN n d = true → RepF Γ H d v → Dp X.K H v (pyD d) := by
  intro n
  induction n with
  | zero =>
    intro d v hp r
    cases d with
    | non => rw [show v = _ from r]; unfold pyD; exact .non
    | bl b => rw [show v = _ from r]; unfold pyD; exact .bl b
    | int i => rw [show v = _ from r]; unfold pyD; exact .int i
    | str s => rw [show v = _ from r]; unfold pyD; exact .str _
    | _ => simp [plainN] at hp
  | succ n ih =>
    have all : ∀ {ds : List D} {vs : List V}, (∀ d ∈ ds, plainN n d = true) → RepFs Γ H ds vs → DpAll X.K H vs (ds.map pyD) := by
      intro ds
      induction ds with
      | nil => intro vs _ r; rw [show vs = _ from r]; exact .nil
      | cons d t iht =>
        rintro vs hp ⟨v, vr, rfl, p, q⟩
        exact .cons (ih (hp d (.head _)) p) (iht (fun x hx => hp x (.tail _ hx)) q)
    intro d v hp r
    cases d with
    | non => rw [show v = _ from r]; unfold pyD; exact .non
    | bl b => rw [show v = _ from r]; unfold pyD; exact .bl b
    | int i => rw [show v = _ from r]; unfold pyD; exact .int i
    | str s => rw [show v = _ from r]; unfold pyD; exact .str _
    | lst ds =>
      obtain ⟨a, vs, rfl, e, q⟩ := r
      rw [pyD_lst]
      exact .lst (.inl (.inl e)) (all (fun d hd => by
        have : (ds.all (plainN n)) = true := by simpa [plainN] using hp
        exact List.all_eq_true.mp this d hd) q)
    | tup ds =>
      obtain ⟨a, vs, rfl, e, q⟩ := r
      rw [pyD_tup]
      exact .tup (.inl (.inl e)) (all (fun d hd => by
        have : (ds.all (plainN n)) = true := by simpa [plainN] using hp
        exact List.all_eq_true.mp this d hd) q)
    | _ => simp [plainN] at hp
theorem shaped_all {n : Nat} {ds : List PyData} (h : ∀ d ∈ ds, d.canLay0 = true ∧ d.depth ≤ n) : PyData.canLayAll0 ds = true ∧ PyData.depthAll ds ≤ n := by
  induction ds with
  | nil => exact ⟨rfl, Nat.zero_le _⟩
  | cons d t ih =>
    have h1 := h d (.head _)
    have h2 := ih fun x hx => h x (.tail _ hx)
    refine ⟨by simp [PyData.canLayAll0, h1.1, h2.1], ?_⟩
    simp only [PyData.depthAll]
    omega
theorem shaped_of (n : Nat) {d : D} (hp : plainN n d = true) : (pyD d).canLay0 = true ∧ (pyD d).depth ≤ n := by
  induction n generalizing d with
  | zero =>
    cases d with
    | str s =>
      refine ⟨?_, by simp [pyD, PyData.depth]⟩
      simp only [pyD, PyData.canLay0, PyData.strOk, Str']
      simpa [plainN, strOkD] using hp
    | _ => first | (simp [plainN] at hp; done) | simp [pyD, PyData.canLay0, PyData.depth]
  | succ n ih =>
    cases d with
    | str s =>
      refine ⟨?_, by simp [pyD, PyData.depth]⟩
      simp only [pyD, PyData.canLay0, PyData.strOk, Str']
      simpa [plainN, strOkD] using hp
    | lst ds =>
      have : (ds.all (plainN n)) = true := by simpa [plainN] using hp
      have := shaped_all (n := n) (ds := ds.map pyD) fun d hd => by
        obtain ⟨x, hx, rfl⟩ := List.mem_map.mp hd
        exact ih (List.all_eq_true.mp this x hx)
      rw [pyD_lst]
      refine ⟨by simp [PyData.canLay0, this.1], ?_⟩
      simp only [PyData.depth]; omega
    | tup ds =>
      have : (ds.all (plainN n)) = true := by simpa [plainN] using hp
      have := shaped_all (n := n) (ds := ds.map pyD) fun d hd => by
        obtain ⟨x, hx, rfl⟩ := List.mem_map.mp hd
        exact ih (List.all_eq_true.mp this x hx)
      rw [pyD_tup]
      refine ⟨by simp [PyData.canLay0, this.1], ?_⟩
      simp only [PyData.depth]; omega
    | _ => first | (simp [plainN] at hp; done) | simp [pyD, PyData.canLay0, PyData.depth]
theorem shaped60 {d : D} (hp : plain d = true) : SeqAt.shaped (pyD d) = true := by
  obtain ⟨a, b⟩ := shaped_of 60 hp
  simp only [SeqAt.shaped, a, Bool.true_and, decide_eq_true_eq]
  omega
theorem shaped60l {ds : List D} (hp : plains ds = true) : SeqAt.shaped (.list (ds.map pyD)) = true := by
  have h : plainN 61 (.lst ds) = true := hp
  obtain ⟨a, b⟩ := shaped_of 61 h
  rw [pyD_lst] at a b
  simp only [SeqAt.shaped, a, Bool.true_and, decide_eq_true_eq]
  omega
theorem dpl_of {a : Addr} {vs : List V} {ds : List D} (hp : plains ds = true) (h : H a = some (.lst vs)) (r : RepFs Γ H ds vs) : Dp X.K H (.ref a) (.list (ds.map pyD)) := by
  have := dp_of (X := X) (Γ := Γ) (H := H) 61 (d := .lst ds) (v := .ref a) hp ⟨a, vs, rfl, h, r⟩
  rwa [pyD_lst] at this
theorem eqv_py (n : Nat) : ∀ {a b : D}, plainN n a = true → plainN n b = true → PyData.eqv (pyD a) (pyD b) = eqv a b := by
  induction n with
  | zero =>
    intro a b ha hb
    cases a <;> cases b <;> first
      | (simp [plainN] at ha; done) | (simp [plainN] at hb; done)
      | (simp [pyD, PyData.eqv, eqv, Str'_inj]; done)
      | (simp only [pyD, PyData.eqv, eqv]; rw [Bool.eq_iff_iff]; simp [Str'_inj])
  | succ n ih =>
    have all : ∀ {x y : List D}, (∀ d ∈ x, plainN n d = true) → (∀ d ∈ y, plainN n d = true) → PyData.eqvAll (x.map pyD) (y.map pyD) = eqvs x y := by
      intro x
      induction x with
      | nil => intro y _ _; cases y <;> simp [PyData.eqvAll, eqvs]
      | cons d t iht =>
        intro y hx hy
        cases y with
        | nil => simp [PyData.eqvAll, eqvs]
        | cons e u =>
          simp only [List.map_cons, PyData.eqvAll, eqvs]
          rw [ih (hx d (.head _)) (hy e (.head _)), iht (fun z hz => hx z (.tail _ hz)) (fun z hz => hy z (.tail _ hz))]
    intro a b ha hb
    cases a <;> cases b <;> first
      | (simp [plainN] at ha; done) | (simp [plainN] at hb; done)
      | (rw [pyD_lst, pyD_lst]; simp only [PyData.eqv, eqv]; exact all (by simpa [plainN] using ha) (by simpa [plainN] using hb))
      | (rw [pyD_tup, pyD_tup]; simp only [PyData.eqv, eqv]; exact all (by simpa [plainN] using ha) (by simpa [plainN] using hb))
      | (simp [pyD, PyData.eqv, eqv, Str'_inj]; done)
      | (simp only [pyD, PyData.eqv, eqv]; rw [Bool.eq_iff_iff]; simp [Str'_inj])
def vD : D → V
  | .bl b => .bl b
  | .int i => .int i
  | .str s => .str (Str' s)
  | _ => .non
theorem flat_v {d : D} (h : flatD d = true) (r : RepF Γ H d v) : v = vD d ∧ flatV v = true := by
  cases d <;> first | (simp [flatD] at h; done) | (rw [show v = _ from r]; exact ⟨rfl, rfl⟩)
theorem eqV_v {a b : D} (ha : flatD a = true) (hb : flatD b = true) : eqV (vD a) (vD b) = eqv a b := by
  cases a <;> cases b <;> first
    | (simp [flatD] at ha; done) | (simp [flatD] at hb; done)
    | (simp [vD, eqV, eqv]; done)
    | (simp only [vD, eqV, eqv]; rw [Bool.eq_iff_iff]; simp [Str'_inj])
theorem s_eq (hu : X.A.units + 64 < cLine) : Op2S X Γ (compareOp .Eq) opEq := by
  refine ⟨_, op_eq.or (op_eqD hu), fun {F Fr H L its v1 v2 o1 o2 o Q} g e k => ?_⟩
  unfold opEq at e
  split at e
  · rename_i hc
    cases e
    have r1 := G.view1 g
    have r2 := G.view g
    have fin : ∀ b, b = eqv o1.fr o2.fr → Q (.bl b) H := fun b hb => k _ F H (Sub.refl _) ((G.tail2 g).addF (d := .bl _) (by rw [hb]; rfl))
    unfold eqOk at hc
    by_cases hs : flatD o1.fr = true ∧ flatD o2.fr = true ∧ scal (vD o1.fr) (vD o2.fr) = true
    · left
      obtain ⟨h1, h2, h3⟩ := hs
      obtain ⟨e1, _⟩ := flat_v h1 r1
      obtain ⟨e2, _⟩ := flat_v h2 r2
      subst e1 e2
      refine ⟨h3, fin _ ?_⟩
      generalize o1.fr = a at *
      generalize o2.fr = b at *
      cases a <;> cases b <;> first
        | (simp [flatD] at h1; done) | (simp [flatD] at h2; done) | (simp [scal, vD] at h3; done)
        | (simp [vD, eqv]; done)
        | (simp only [vD, eqv]; rw [Bool.eq_iff_iff]; simp [Str'_inj])
    · right
      have hp : plain o1.fr = true ∧ plain o2.fr = true := by
        rcases Bool.or_eq_true_iff.mp hc with h | h
        · obtain ⟨h1, h2⟩ := Bool.and_eq_true_iff.mp h
          have h3 : scal (vD o1.fr) (vD o2.fr) ≠ true := fun z => hs ⟨h1, h2, z⟩
          generalize o1.fr = a at *
          generalize o2.fr = b at *
          cases a <;> cases b <;> first
            | (simp [flatD] at h1; done) | (simp [flatD] at h2; done) | (exact absurd rfl h3) | (exact ⟨rfl, rfl⟩)
        · exact Bool.and_eq_true_iff.mp h
      exact ⟨_, _, dp_of 60 hp.1 r1, dp_of 60 hp.2 r2, shaped60 hp.1, shaped60 hp.2, fin _ (eqv_py 60 hp.1 hp.2)⟩
  · cases e
theorem s_ne (hu : X.A.units + 64 < cLine) : Op2S X Γ (compareOp .NotEq) opNe := by
  refine ⟨_, op_ne.or (op_neD hu), fun {F Fr H L its v1 v2 o1 o2 o Q} g e k => ?_⟩
  unfold opNe at e
  split at e
  · rename_i hc
    cases e
    have r1 := G.view1 g
    have r2 := G.view g
    have fin : ∀ b, b = eqv o1.fr o2.fr → Q (.bl (!b)) H := fun b hb => k _ F H (Sub.refl _) ((G.tail2 g).addF (d := .bl _) (by rw [hb]; rfl))
    unfold eqOk at hc
    by_cases hs : flatD o1.fr = true ∧ flatD o2.fr = true ∧ scal (vD o1.fr) (vD o2.fr) = true
    · left
      obtain ⟨h1, h2, h3⟩ := hs
      obtain ⟨e1, _⟩ := flat_v h1 r1
      obtain ⟨e2, _⟩ := flat_v h2 r2
      subst e1 e2
      refine ⟨h3, fin _ ?_⟩
      generalize o1.fr = a at *
      generalize o2.fr = b at *
      cases a <;> cases b <;> first
        | (simp [flatD] at h1; done) | (simp [flatD] at h2; done) | (simp [scal, vD] at h3; done)
        | (simp [vD, eqv]; done)
        | (simp only [vD, eqv]; rw [Bool.eq_iff_iff]; simp [Str'_inj])
    · right
      have hp : plain o1.fr = true ∧ plain o2.fr = true := by
        rcases Bool.or_eq_true_iff.mp hc with h | h
        · obtain ⟨h1, h2⟩ := Bool.and_eq_true_iff.mp h
          have h3 : scal (vD o1.fr) (vD o2.fr) ≠ true := fun z => hs ⟨h1, h2, z⟩
          generalize o1.fr = a at *
          generalize o2.fr = b at *
          cases a <;> cases b <;> first
            | (simp [flatD] at h1; done) | (simp [flatD] at h2; done) | (exact absurd rfl h3) | (exact ⟨rfl, rfl⟩)
        · exact Bool.and_eq_true_iff.mp h
      exact ⟨_, _, dp_of 60 hp.1 r1, dp_of 60 hp.2 r2, shaped60 hp.1, shaped60 hp.2, fin _ (eqv_py 60 hp.1 hp.2)⟩
  · cases e
end
end FA
namespace FA
open PySem L2
section
variable {X : Cx} {Γ : Wd} {F F' Fr H H' : Hp} {L : List Addr} {its : Bag} {v w : V}
/-- two ints to a value -/
theorem s_ints {f : Value → Value → PySem.Sem Value} {C : Int → Int → Prop} {g : Int → Int → V} {op : Op2} (ho : OpR X f (rI C g))
    (hop : ∀ a b o, op a b = some o → ∃ i j d, a = .int i ∧ b = .int j ∧ C i j ∧ o = .fz d ∧ ∀ F, RepF Γ F d (g i j)) : Op2S X Γ f op := by
  refine ⟨_, ho, fun {F Fr H L its v1 v2 o1 o2 o Q} gg e k => ?_⟩
  obtain ⟨i, j, d, e1, e2, c, rfl, r⟩ := hop _ _ _ e
  have r1 := G.view1 gg
  have r2 := G.view gg
  rw [e1] at r1
  rw [e2] at r2
  exact ⟨i, j, r1, r2, c, k _ F H (Sub.refl _) ((G.tail2 gg).addF (r F))⟩
theorem rI0_of {g : Int → Int → V} {f : Value → Value → PySem.Sem Value} (h : OpR X f (rI0 g)) : OpR X f (rI (fun _ _ => True) g) :=
  fun pins s σ H x y v u Q I rx ry ⟨i, j, e1, e2, _, q⟩ => h pins s σ H x y v u Q I rx ry ⟨i, j, e1, e2, q⟩
theorem s_sub : Op2S X Γ (binaryOp .Sub) opSub := s_ints (rI0_of op_sub) fun a b o e => by
  cases a <;> cases b <;> simp [opSub] at e
  subst e
  exact ⟨_, _, _, rfl, rfl, trivial, rfl, fun _ => rfl⟩
theorem s_mod : Op2S X Γ (binaryOp .Mod) opMod := s_ints op_mod fun a b o e => by
  cases a <;> cases b <;> simp [opMod] at e
  obtain ⟨h, e⟩ := e
  subst e
  exact ⟨_, _, _, rfl, rfl, h, rfl, fun _ => rfl⟩
theorem s_fdiv : Op2S X Γ (binaryOp .FloorDiv) opFDiv := s_ints op_fdiv fun a b o e => by
  cases a <;> cases b <;> simp [opFDiv] at e
  obtain ⟨h, e⟩ := e
  subst e
  exact ⟨_, _, _, rfl, rfl, h, rfl, fun _ => rfl⟩
theorem s_pow : Op2S X Γ (binaryOp .Pow) opPow := s_ints op_pow fun a b o e => by
  cases a <;> cases b <;> simp [opPow] at e
  obtain ⟨h, e⟩ := e
  subst e
  refine ⟨_, _, _, rfl, rfl, ⟨h.1, h.2.1, ?_⟩, rfl, fun _ => rfl⟩
  have := h.2.2
  simp [smallI] at this
  omega
theorem s_gt : Op2S X Γ (compareOp .Gt) opGt := s_ints (rI0_of op_gt) fun a b o e => by
  cases a <;> cases b <;> simp [opGt] at e
  subst e
  exact ⟨_, _, _, rfl, rfl, trivial, rfl, fun _ => rfl⟩
theorem s_le : Op2S X Γ (compareOp .LtE) opLe := s_ints (rI0_of op_le) fun a b o e => by
  cases a <;> cases b <;> simp [opLe] at e
  subst e
  exact ⟨_, _, _, rfl, rfl, trivial, rfl, fun _ => rfl⟩
theorem s_add : Op2S X Γ (binaryOp .Add) opAdd := by
  refine ⟨_, (op_add.or op_add_str).or (op_cat.or op_catA), fun {F Fr H L its v1 v2 o1 o2 o Q} g e k => ?_⟩
  have r1 := G.view1 g
  have r2 := G.view g
  obtain ⟨F1, s1, g1, p1, p2⟩ := G.freeze2 g
  generalize o1.fr = a at *
  generalize o2.fr = b at *
  cases a <;> cases b <;> simp [opAdd] at e
  · subst e
    exact .inl (.inl ⟨_, _, r1, r2, k _ F H (Sub.refl _) ((G.tail2 g).addF (d := .int _) rfl)⟩)
  · obtain ⟨h, e⟩ := e
    subst e
    refine .inl (.inr ⟨_, _, r1, r2, ?_, ?_⟩)
    · rw [Str'_len, Str'_len, ← line_eq]; exact h
    · rw [Str'_app]
      exact k _ F H (Sub.refl _) ((G.tail2 g).addF (d := .str _) rfl)
  · obtain ⟨h, e⟩ := e
    subst e
    obtain ⟨a1, vs1, rfl, e1, q1⟩ := p1
    obtain ⟨a2, vs2, rfl, e2, q2⟩ := p2
    refine .inr (.inl ⟨a1, a2, vs1, vs2, rfl, rfl, g1.sub _ _ e1, g1.sub _ _ e2, ?_, fun p hp => ?_⟩)
    · rw [q1.len, q2.len, ← line_eq]; exact h
    · have := G.mkL (p := p) g1 (q1.app q2) hp
      rw [List.map_append] at this
      exact k _ _ _ s1 this
  · obtain ⟨h, e⟩ := e
    subst e
    obtain ⟨a1, vs1, rfl, e1, q1⟩ := p1
    obtain ⟨a2, vs2, rfl, e2, q2⟩ := p2
    have l1 := q1.len
    have l2 := q2.len
    refine .inr (.inr ⟨a1, a2, vs1, vs2, rfl, rfl, .inl (.inl (g1.sub _ _ e1)), .inl (.inl (g1.sub _ _ e2)), ?_, fun z => ?_, fun z z' => ?_, fun z z' p hp => ?_⟩)
    · rw [l1, l2, ← line_eq]; exact h
    · have : ‹List D› = [] ∨ True := .inr trivial
      subst z
      have hn := List.length_eq_zero_iff.mp (show List.length _ = 0 from l1.symm)
      subst hn
      exact k _ F1 H s1 (g1.addF (d := .tup _) ⟨a2, vs2, rfl, e2, q2⟩)
    · subst z'
      have hn := List.length_eq_zero_iff.mp (show List.length _ = 0 from l2.symm)
      subst hn
      rw [List.append_nil] at k
      exact k _ F1 H s1 (g1.addF (d := .tup _) ⟨a1, vs1, rfl, e1, q1⟩)
    · obtain ⟨F2, s2, g2⟩ := G.mkT (p := p) g1 (q1.app q2) hp
      exact k _ _ _ (s1.trans s2) g2
theorem alike_py : ∀ {a b : D}, alikeD a b = true → W.alike (pyD a) (pyD b) = true
  | .lst a, .lst b, h => by
    rw [pyD_lst, pyD_lst]; simp only [W.alike, ← pyDs_map]; exact alikes_py h
  | .tup a, .tup b, h => by
    rw [pyD_tup, pyD_tup]; simp only [W.alike, ← pyDs_map]; exact alikes_py h
  | .non, .non, _ => rfl
  | .bl _, .bl _, _ => rfl
  | .int _, .int _, _ => rfl
  | .str _, .str _, _ => rfl
where alikes_py : ∀ {a b : List D}, alikeDs a b = true → W.alikeAll (pyDs a) (pyDs b) = true
  | [], [], _ => by simp [pyDs, W.alikeAll]
  | [], _ :: _, _ => by simp [pyDs, W.alikeAll]
  | _ :: _, [], _ => by simp [pyDs, W.alikeAll]
  | a :: r, b :: s, h => by
    have h' : alikeD a b = true ∧ alikeDs r s = true := by simpa [alikeDs] using h
    simp [pyDs, W.alikeAll, alike_py h'.1, alikes_py h'.2]
theorem lt_py (n : Nat) : ∀ {a b : D}, plainN n a = true → plainN n b = true → alikeD a b = true → W.dataLt (pyD a) (pyD b) = ltB a b := by
  induction n with
  | zero =>
    intro a b ha hb h
    cases a <;> cases b <;> first
      | (simp [plainN] at ha; done) | (simp [plainN] at hb; done) | (simp [alikeD] at h; done)
      | (simp only [pyD, W.dataLt_int, ltB]; done)
      | (simp only [pyD, W.dataLt_str, ltB]; rfl)
      | (rename_i x y; cases x <;> cases y <;> rfl)
      | rfl
  | succ n ih =>
    have all : ∀ {x y : List D}, (∀ d ∈ x, plainN n d = true) → (∀ d ∈ y, plainN n d = true) → alikeDs x y = true →
        PyProof.Rows.lexLt PyProof.Rows.itemOrd (W.keyToksAll (x.map pyD)) (W.keyToksAll (y.map pyD)) = ltBs x y := by
      intro x
      induction x with
      | nil =>
        intro y _ _ _
        cases y with
        | nil => rfl
        | cons e u => rfl
      | cons d t iht =>
        intro y hx hy h
        cases y with
        | nil => rfl
        | cons e u =>
          have h' : alikeD d e = true ∧ alikeDs t u = true := by simpa [alikeDs] using h
          simp only [List.map_cons, ltBs]
          have q := eqv_py n (hx d (.head _)) (hy e (.head _))
          cases z : eqv d e with
          | true =>
            rw [z] at q
            rw [W.dataLt_all_yes (alike_py h'.1) q, iht (fun w hw => hx w (.tail _ hw)) (fun w hw => hy w (.tail _ hw)) h'.2]
            simp
          | false =>
            rw [z] at q
            rw [W.dataLt_all_no (alike_py h'.1) q, ih (hx d (.head _)) (hy e (.head _)) h'.1]
            simp
    intro a b ha hb h
    cases a <;> cases b <;> first
      | (simp [plainN] at ha; done) | (simp [plainN] at hb; done) | (simp [alikeD] at h; done)
      | (simp only [pyD, W.dataLt_int, ltB]; done)
      | (simp only [pyD, W.dataLt_str, ltB]; rfl)
      | (rw [pyD_lst, pyD_lst, W.dataLt_list]; simp only [ltB]; exact all (by simpa [plainN] using ha) (by simpa [plainN] using hb) (by simpa [alikeD] using h))
      | (rw [pyD_tup, pyD_tup, W.dataLt_tuple]; simp only [ltB]; exact all (by simpa [plainN] using ha) (by simpa [plainN] using hb) (by simpa [alikeD] using h))
      | (rename_i x y; cases x <;> cases y <;> rfl)
      | rfl
def rLtD (K : PySem.W.Frag) : R2 := fun x y H Q => ∃ d e, Dp K H x d ∧ Dp K H y e ∧ SeqAt.shaped d = true ∧ W.alike d e = true ∧ d ≠ .none ∧ Q (.bl (W.dataLt d e)) H
theorem op_ltD (hu : X.A.units + 64 < cLine) : OpR X (compareOp .Lt) (rLtD X.K) := by
  intro pins s σ H x y v u Q I rx ry h
  obtain ⟨d, e, h1, h2, h3, h4, h5, q⟩ := h
  obtain ⟨as, ra⟩ := Dp.reads I d x v h1 rx
  obtain ⟨bs, rb⟩ := Dp.reads I e y u h2 ry
  have hd := SeqAt.depth_of_shaped h3
  refine W.rcLt_alike d e X.A s v u as bs ra rb h4 h5 ?_ X.prog X.w _ _ ⟨.bl _, H, I, rfl, q⟩
  have : min d.depth e.depth ≤ d.depth := Nat.min_le_left _ _
  omega
/-- a comparison of what is only looked at -/
def Op2B (X : Cx) (Γ : Wd) (f : Value → Value → PySem.Sem Value) (op : Op2) : Prop :=
  ∃ r : R2, OpR X f r ∧ ∀ {H : Hp} {v1 v2 : V} {a b : D} {o : O} {Q : VK}, RepF Γ H a v1 → RepF Γ H b v2 → op a b = some o → (∀ x, o = boolO x → Q (.bl x) H) → r v1 v2 H Q
theorem Op2B.toS {f : Value → Value → PySem.Sem Value} {op : Op2} (h : Op2B X Γ f op) : Op2S X Γ f op := by
  obtain ⟨r, hr, k⟩ := h
  exact ⟨r, hr, fun {F Fr H L its v1 v2 o1 o2 o Q} g e q => k (G.view1 g) (G.view g) e fun x hx => q _ F H (Sub.refl _) ((G.tail2 g).addF (d := .bl x) rfl |> fun z => by rw [hx]; exact z)⟩
theorem b_lt (hu : X.A.units + 64 < cLine) : Op2B X Γ (compareOp .Lt) opLt := by
  refine ⟨_, op_lt.or (op_ltD hu), fun {H v1 v2 a b o Q} r1 r2 e fin => ?_⟩
  by_cases hi : (∃ i, a = .int i) ∧ ∃ j, b = .int j
  · obtain ⟨⟨i, rfl⟩, j, rfl⟩ := hi
    simp only [opLt, Option.some.injEq] at e
    exact .inl ⟨i, j, r1, r2, fin _ e.symm⟩
  · have e' : (ltD a b).map boolO = some o := by
      cases a <;> cases b <;> first | exact e | exact absurd ⟨⟨_, rfl⟩, _, rfl⟩ hi
    obtain ⟨x, hx, rfl⟩ := Option.map_eq_some_iff.mp e'
    unfold ltD at hx
    split at hx
    · rename_i hc
      cases hx
      have hc' : ((plain a = true ∧ plain b = true) ∧ alikeD a b = true) ∧ notNon a = true := by simpa [ltOk] using hc
      obtain ⟨⟨⟨h1, h2⟩, h3⟩, h4⟩ := hc'
      refine .inr ⟨_, _, dp_of 60 h1 r1, dp_of 60 h2 r2, shaped60 h1, alike_py h3, ?_, ?_⟩
      · intro z
        cases a <;> first | (simp [notNon] at h4; done) | (simp [pyD] at z; done) | (simp [plain, plainN] at h1; done)
      · rw [lt_py 60 h1 h2 h3]
        exact fin _ rfl
    · cases hx
theorem s_lt (hu : X.A.units + 64 < cLine) : Op2S X Γ (compareOp .Lt) opLt := (b_lt hu).toS
end
end FA
namespace FA
open PySem L2
open StrLaws in
theorem occ_sign (s : Str) (c hi limit : Nat) : ∀ (n a : Nat) (acc : Array Nat) (free : Nat), free ≤ a →
    ((forIn (List.range' a n) (acc, free) (occBody s ⟨#[c]⟩ hi limit)).run.fst.toList = acc.toList ++ ((List.range' a n).filter fun i => decide (i + 1 ≤ hi ∧ s.cps.toList[i]? = some c ∧ i + 1 ≤ s.length)).take (limit - acc.size))
  | 0, a, acc, free, _ => by simp [List.range', Id.run, pure]
  | n + 1, a, acc, free, hf => by
    rw [List.range'_succ, List.forIn_cons]
    have hlen : (⟨#[c]⟩ : Str).length = 1 := rfl
    have key : ∀ i, (Builtin.Str.subAt s ⟨#[c]⟩ i = true) ∧ i + 1 ≤ s.length ↔ s.cps.toList[i]? = some c ∧ i + 1 ≤ s.length := by
      intro i
      have := subAt_one s c i
      rw [hlen] at this
      constructor
      · rintro ⟨h1, h2⟩; exact ⟨this.mp ⟨h2, h1⟩, h2⟩
      · rintro ⟨h1, h2⟩; exact ⟨(this.mpr h1).2, h2⟩
    have key2 : Builtin.Str.subAt s ⟨#[c]⟩ a = true ↔ s.cps.toList[a]? = some c ∧ a + 1 ≤ s.length ∨ (Builtin.Str.subAt s ⟨#[c]⟩ a = true ∧ ¬ a + 1 ≤ s.length) := by
      have := key a
      by_cases h : a + 1 ≤ s.length
      · simp only [h, and_true, not_true_eq_false, and_false, or_false] at this ⊢; exact this
      · simp [h]
    unfold occBody
    by_cases hc : (((acc.size < limit ∧ free ≤ a) ∧ a + (⟨#[c]⟩ : Str).length ≤ hi) ∧ Builtin.Str.subAt s ⟨#[c]⟩ a = true)
    · rw [if_pos hc]
      obtain ⟨⟨⟨h1, _⟩, h2⟩, h3⟩ := hc
      rw [hlen] at h2
      have hs : s.cps.toList[a]? = some c := by
        rw [subAt_eq] at h3; exact take1_drop.mp h3
      have hl : a + 1 ≤ s.length := by
        obtain ⟨q, _⟩ := List.getElem?_eq_some_iff.mp hs
        simp [Str.length] at q ⊢; omega
      have ih := occ_sign s c hi limit n (a + 1) (acc.push a) (a + 1) (Nat.le_refl _)
      show ((forIn (List.range' (a + 1) n) (acc.push a, a + 1) (occBody s ⟨#[c]⟩ hi limit)).run.fst.toList = _)
      rw [ih]
      have e : limit - acc.size = (limit - (acc.push a).size) + 1 := by simp; omega
      rw [List.filter_cons_of_pos (by simp [h2, hs, hl]), e, List.take_succ_cons]
      simp
    · rw [if_neg hc]
      have ih := occ_sign s c hi limit n (a + 1) acc free (by omega)
      show ((forIn (List.range' (a + 1) n) (acc, free) (occBody s ⟨#[c]⟩ hi limit)).run.fst.toList = _)
      rw [ih]
      by_cases hl : acc.size < limit
      · have : ¬ (a + 1 ≤ hi ∧ s.cps.toList[a]? = some c ∧ a + 1 ≤ s.length) := by
          rintro ⟨h1, h2, h3⟩
          refine hc ⟨⟨⟨hl, hf⟩, by rw [hlen]; exact h1⟩, ?_⟩
          rw [subAt_eq]; exact take1_drop.mpr h2
        rw [List.filter_cons_of_neg (by simpa using this)]
      · have : limit - acc.size = 0 := by omega
        rw [this]; simp
theorem filt_from : ∀ (l : List Nat) (c a : Nat) (m : List Nat), (∀ i, m[a + i]? = l[i]?) → ((List.range' a l.length).filter fun i => decide (m[i]? = some c)) = ((List.range' 0 l.length).filter fun i => decide (l[i]? = some c)).map (· + a)
  | l, c, a, m, h => by
    have : ∀ n b, ((List.range' (b + a) n).filter fun i => decide (m[i]? = some c)) = ((List.range' b n).filter fun i => decide (l[i]? = some c)).map (· + a) := by
      intro n
      induction n with
      | zero => intro b; rfl
      | succ n ih =>
        intro b
        rw [List.range'_succ, List.range'_succ, List.filter_cons, List.filter_cons, show b + a + 1 = (b + 1) + a by omega, ih]
        have e : m[b + a]? = l[b]? := by rw [Nat.add_comm, h]
        rw [e]
        split <;> simp
    simpa using this l.length 0
theorem occ_all (s : List Nat) (c limit : Nat) : Builtin.Str.occurrences (Str' s) ⟨#[c]⟩ 0 (Str' s).length limit = ((List.range' 0 s.length).filter fun i => decide (s[i]? = some c)).take limit := by
  rw [StrLaws.occ_eq, occ_sign _ _ _ _ _ _ _ _ (Nat.le_refl _)]
  have e1 : (Str' s).length = s.length := Str'_len s
  have e2 : (Str' s).cps.toList = s := rfl
  rw [e1, e2]
  simp only [List.nil_append, Array.toList_empty, Array.size_empty, Nat.sub_zero]
  rw [show s.length + 1 = s.length + 1 from rfl, List.range'_concat, List.filter_append]
  have h0 : (List.filter (fun i => decide (i + 1 ≤ s.length ∧ s[i]? = some c ∧ i + 1 ≤ s.length)) [0 + 1 * s.length]) = [] := by simp
  rw [h0, List.append_nil]
  congr 1
  apply List.filter_congr
  intro i hi
  have hi' : i < s.length := by simp [List.mem_range'] at hi; omega
  have h1 : i + 1 ≤ s.length := hi'
  simp [h1]
theorem findN_filter : ∀ (s : List Nat) (c : Nat), findN s c = ((List.range' 0 s.length).filter fun i => decide (s[i]? = some c)).head?
  | [], c => rfl
  | d :: r, c => by
    have ih := findN_filter r c
    have h1 := filt_from r c 1 (d :: r) (fun i => by simp [Nat.add_comm])
    show (if d = c then some 0 else (findN r c).map (· + 1)) = ((List.range' 0 (r.length + 1)).filter _).head?
    rw [List.range'_succ]
    by_cases h : d = c
    · rw [if_pos h, List.filter_cons_of_pos (by simp [h])]; rfl
    · rw [if_neg h, List.filter_cons_of_neg (by simp [h]), h1, ih, List.head?_map]
theorem index_sign {s : List Nat} {c k : Nat} (h : findN s c = some k) : ∃ rest, Builtin.Str.occurrences (Str' s) (Str' [c]) 0 (Str' s).length 1 = k :: rest := by
  show ∃ rest, Builtin.Str.occurrences (Str' s) ⟨#[c]⟩ 0 (Str' s).length 1 = k :: rest
  rw [occ_all]
  rw [findN_filter] at h
  cases e : ((List.range' 0 s.length).filter fun i => decide (s[i]? = some c)) with
  | nil => rw [e] at h; cases h
  | cons a r => rw [e] at h; cases h; exact ⟨[], by simp⟩
theorem prefixB_take : ∀ (x s : List Nat), prefixB x s = (s.take x.length == x)
  | [], s => by simp [prefixB]
  | _ :: _, [] => by simp [prefixB]
  | a :: r, b :: s => by
    simp only [prefixB, List.length_cons, List.take_succ_cons]
    rw [prefixB_take r s, Bool.eq_iff_iff]
    simp
    intro _
    exact ⟨fun h => h.symm, fun h => h.symm⟩
theorem hasSub_iff (x : List Nat) : ∀ (s : List Nat), hasSub x s = true ↔ ∃ i, i + x.length ≤ s.length ∧ (s.drop i).take x.length = x
  | [] => by
    cases x with
    | nil => simp [hasSub]
    | cons a r => simp [hasSub]
  | c :: r => by
    have ih := hasSub_iff x r
    show (prefixB x (c :: r) || hasSub x r) = true ↔ _
    rw [Bool.or_eq_true_iff, ih, prefixB_take]
    constructor
    · rintro (h | ⟨i, h1, h2⟩)
      · refine ⟨0, ?_, by simpa using h⟩
        have := congrArg List.length (show List.take x.length (c :: r) = x by simpa using h)
        rw [List.length_take] at this
        omega
      · exact ⟨i + 1, by simp; omega, by simpa using h2⟩
    · rintro ⟨i, h1, h2⟩
      cases i with
      | zero => left; simpa using h2
      | succ i => right; exact ⟨i, by simp at h1; omega, by simpa using h2⟩
theorem has_sub (x s : List Nat) : (!(Builtin.Str.occurrences (Str' s) (Str' x) 0 (Str' s).length 1).isEmpty) = hasSub x s := by
  rw [Bool.eq_iff_iff, StrLaws.found_iff, hasSub_iff]
  constructor
  · rintro ⟨i, h1, h2⟩
    rw [StrLaws.subAt_eq, Str'_len] at h2
    refine ⟨i, by simpa [Str'_len] using h1, ?_⟩
    simpa [Str'] using h2
  · rintro ⟨i, h1, h2⟩
    refine ⟨i, by simpa [Str'_len] using h1, ?_⟩
    rw [StrLaws.subAt_eq, Str'_len]
    simpa [Str'] using h2
end FA
namespace FA
open PySem L2
section
variable {X : Cx} {Γ : Wd} {F F' Fr H H' : Hp} {L : List Addr} {its : Bag} {v w : V}
theorem flats_v : ∀ {ds : List D} {vs : List V}, ds.all flatD = true → RepFs Γ H ds vs → vs = ds.map vD ∧ vs.all flatV = true
  | [], _, _, r => by rw [show _ = _ from r]; exact ⟨rfl, rfl⟩
  | d :: t, _, h, ⟨v, vr, e, p, q⟩ => by
    subst e
    have h' : flatD d = true ∧ t.all flatD = true := by simpa using h
    obtain ⟨a, b⟩ := flat_v h'.1 p
    obtain ⟨c, e⟩ := flats_v h'.2 q
    exact ⟨by rw [a, c]; rfl, by simp [b, e]⟩
theorem inV_v {d : D} (h : flatD d = true) : ∀ {ds : List D}, ds.all flatD = true → inV (vD d) (ds.map vD) = ds.any fun e => eqv e d
  | [], _ => rfl
  | e :: t, hs => by
    have h' : flatD e = true ∧ t.all flatD = true := by simpa using hs
    show (eqV (vD e) (vD d) || inV (vD d) (t.map vD)) = (eqv e d || t.any fun z => eqv z d)
    rw [eqV_v h'.1 h, inV_v h h'.2]
theorem any_py {d : D} (h : plain d = true) : ∀ {ds : List D}, plains ds = true → ((ds.map pyD).any fun z => PyData.eqv z (pyD d)) = ds.any fun e => eqv e d
  | [], _ => rfl
  | e :: t, hs => by
    have h' : plain e = true ∧ plains t = true := by simpa [plains] using hs
    simp only [List.map_cons, List.any_cons]
    rw [eqv_py 60 h'.1 h, any_py h h'.2]
/-- x in a tuple of data at any depth: by its items as a list would (tuples of flat items alone) -/
theorem b_in (hu : X.A.units + 65 < cLine) : Op2B X Γ (compareOp .In) opIn := by
  refine ⟨_, op_in_str.or (op_in_seq.or (op_inD hu)), fun {H v1 v2 a b o Q} r1 r2 e fin => ?_⟩
  cases b with
  | str s =>
    cases a with
    | str x =>
      simp only [opIn, inD, Option.map_some, Option.some.injEq] at e
      refine .inl ⟨_, _, r1, r2, ?_⟩
      rw [has_sub]
      exact fin _ e.symm
    | _ => simp [opIn, inD] at e
  | lst ds =>
    have e' : (if eqsOk a ds then some (ds.any fun d => eqv d a) else none).map boolO = some o := by
      cases a <;> exact e
    obtain ⟨b, hb, rfl⟩ := Option.map_eq_some_iff.mp e'
    split at hb
    · rename_i hc
      cases hb
      obtain ⟨p, vs, rfl, hp, q⟩ := r2
      rcases Bool.or_eq_true_iff.mp (show ((flatD a && ds.all flatD) || (plain a && plains ds)) = true from hc) with h | h
      · obtain ⟨h1, h2⟩ := Bool.and_eq_true_iff.mp h
        obtain ⟨ea, fa⟩ := flat_v h1 r1
        obtain ⟨es, fs⟩ := flats_v h2 q
        subst ea es
        refine .inr (.inl ⟨p, _, rfl, .inl (.inl (.inl hp)), fa, fs, ?_⟩)
        rw [if_neg Bool.false_ne_true, inV_v h1 h2]
        exact fin _ rfl
      · obtain ⟨h1, h2⟩ := Bool.and_eq_true_iff.mp h
        refine .inr (.inr ⟨_, _, dp_of 60 h1 r1, dpl_of h2 hp q, shaped60 h1, shaped60l h2, ?_⟩)
        rw [any_py h1 h2]
        exact fin _ rfl
    · cases hb
  | tup ds =>
    have e' : (if flatD a && ds.all flatD then some (ds.any fun d => eqv d a) else none).map boolO = some o := by
      cases a <;> exact e
    obtain ⟨b, hb, rfl⟩ := Option.map_eq_some_iff.mp e'
    split at hb
    · rename_i hf
      cases hb
      obtain ⟨h1, h2⟩ := Bool.and_eq_true_iff.mp hf
      obtain ⟨p, vs, rfl, hp, q⟩ := r2
      obtain ⟨ea, fa⟩ := flat_v h1 r1
      obtain ⟨es, fs⟩ := flats_v h2 q
      subst ea es
      refine .inr (.inl ⟨p, _, rfl, .inr (.inl (.inl hp)), fa, fs, ?_⟩)
      rw [if_neg Bool.false_ne_true, inV_v h1 h2]
      exact fin _ rfl
    · cases hb
  | _ => cases a <;> simp [opIn, inD] at e
theorem b_notin (hu : X.A.units + 65 < cLine) : Op2B X Γ (compareOp .NotIn) opNotIn := by
  refine ⟨_, op_notin_str.or (op_notIn_seq.or (op_notInD hu)), fun {H v1 v2 a b o Q} r1 r2 e fin => ?_⟩
  cases b with
  | str s =>
    cases a with
    | str x =>
      simp only [opNotIn, inD, Option.map_some, Option.some.injEq] at e
      refine .inl ⟨_, _, r1, r2, ?_⟩
      rw [has_sub]
      exact fin _ e.symm
    | _ => simp [opNotIn, inD] at e
  | lst ds =>
    have e' : (if eqsOk a ds then some (ds.any fun d => eqv d a) else none).map (fun x => boolO (!x)) = some o := by
      cases a <;> exact e
    obtain ⟨b, hb, rfl⟩ := Option.map_eq_some_iff.mp e'
    split at hb
    · rename_i hc
      cases hb
      obtain ⟨p, vs, rfl, hp, q⟩ := r2
      rcases Bool.or_eq_true_iff.mp (show ((flatD a && ds.all flatD) || (plain a && plains ds)) = true from hc) with h | h
      · obtain ⟨h1, h2⟩ := Bool.and_eq_true_iff.mp h
        obtain ⟨ea, fa⟩ := flat_v h1 r1
        obtain ⟨es, fs⟩ := flats_v h2 q
        subst ea es
        refine .inr (.inl ⟨p, _, rfl, .inl (.inl (.inl hp)), fa, fs, ?_⟩)
        rw [if_pos rfl, inV_v h1 h2]
        exact fin _ rfl
      · obtain ⟨h1, h2⟩ := Bool.and_eq_true_iff.mp h
        refine .inr (.inr ⟨_, _, dp_of 60 h1 r1, dpl_of h2 hp q, shaped60 h1, shaped60l h2, ?_⟩)
        rw [any_py h1 h2]
        exact fin _ rfl
    · cases hb
  | tup ds =>
    have e' : (if flatD a && ds.all flatD then some (ds.any fun d => eqv d a) else none).map (fun x => boolO (!x)) = some o := by
      cases a <;> exact e
    obtain ⟨b, hb, rfl⟩ := Option.map_eq_some_iff.mp e'
    split at hb
    · rename_i hf
      cases hb
      obtain ⟨h1, h2⟩ := Bool.and_eq_true_iff.mp hf
      obtain ⟨p, vs, rfl, hp, q⟩ := r2
      obtain ⟨ea, fa⟩ := flat_v h1 r1
      obtain ⟨es, fs⟩ := flats_v h2 q
      subst ea es
      refine .inr (.inl ⟨p, _, rfl, .inr (.inl (.inl hp)), fa, fs, ?_⟩)
      rw [if_pos rfl, inV_v h1 h2]
      exact fin _ rfl
    · cases hb
  | _ => cases a <;> simp [opNotIn, inD] at e
theorem s_in (hu : X.A.units + 65 < cLine) : Op2S X Γ (compareOp .In) opIn := (b_in hu).toS
theorem s_is : Op2S X Γ (compareOp .Is) opIs := by
  refine ⟨_, op_isN.or op_isBl, fun {F Fr H L its v1 v2 o1 o2 o Q} g e k => ?_⟩
  have r1 := G.view1 g
  have r2 := G.view g
  have fin : ∀ b, o = boolO b → Q (.bl b) H := fun b hb => k _ F H (Sub.refl _) ((G.tail2 g).addF (d := .bl b) rfl |> fun z => by rw [hb]; exact z)
  generalize o1.fr = a at *
  generalize o2.fr = b at *
  cases b with
  | non =>
    refine .inl ⟨r2, ?_⟩
    cases a <;> simp [opIs, isD] at e <;> (refine fin _ ?_; rw [← e]; congr 1; first | (rw [show v1 = _ from r1]; rfl) | (obtain ⟨_, _, rfl, _⟩ := r1; rfl) | (obtain ⟨_, _, _, _, rfl, _⟩ := r1; rfl) | (obtain ⟨_, rfl, _⟩ := r1; rfl))
  | bl y =>
    cases a <;> simp [opIs, isD] at e
    refine .inr ⟨_, _, r1, r2, ?_⟩
    refine fin _ ?_
    rw [← e]
    congr 1
  | _ => cases a <;> simp [opIs, isD] at e
theorem s_isnot : Op2S X Γ (compareOp .IsNot) opIsNot := by
  refine ⟨_, op_notN.or op_notBl, fun {F Fr H L its v1 v2 o1 o2 o Q} g e k => ?_⟩
  have r1 := G.view1 g
  have r2 := G.view g
  have fin : ∀ b, o = boolO b → Q (.bl b) H := fun b hb => k _ F H (Sub.refl _) ((G.tail2 g).addF (d := .bl b) rfl |> fun z => by rw [hb]; exact z)
  generalize o1.fr = a at *
  generalize o2.fr = b at *
  cases b with
  | non =>
    refine .inl ⟨r2, ?_⟩
    cases a <;> simp [opIsNot, isD] at e <;> (refine fin _ ?_; rw [← e]; congr 1; first | (rw [show v1 = _ from r1]; rfl) | (obtain ⟨_, _, rfl, _⟩ := r1; rfl) | (obtain ⟨_, _, _, _, rfl, _⟩ := r1; rfl) | (obtain ⟨_, rfl, _⟩ := r1; rfl))
  | bl y =>
    cases a <;> simp [opIsNot, isD] at e
    refine .inr ⟨_, _, r1, r2, ?_⟩
    refine fin _ ?_
    rw [← e]
    congr 1
  | _ => cases a <;> simp [opIsNot, isD] at e
theorem idx_ix {n : Nat} {i : Int} {k : Nat} (h : idx n i = some k) : ixN n i = some k := by
  unfold idx at h
  unfold ixN
  split at h
  · rename_i h0
    rw [if_pos h0]
    split at h
    · rename_i h1
      cases h
      rw [if_pos (by omega)]
    · cases h
  · rename_i h0
    rw [if_neg h0]
    split at h
    · cases h
      rw [if_pos (by omega)]
      congr 1
      omega
    · cases h
theorem atI_of {α : Type} {xs : List α} {i : Int} {x : α} {n : Nat} (hn : n = xs.length) (h : ((idx n i).bind fun k => xs[k]?) = some x) : atI xs i = some x := by
  subst hn
  obtain ⟨k, hk, hx⟩ := Option.bind_eq_some_iff.mp h
  unfold atI
  rw [idx_ix hk]
  exact hx
theorem s_item : ∃ r : R2, IxR X r ∧ ∀ {F Fr H : Hp} {L : List Addr} {its : Bag} {v1 v2 : V} {o1 o2 o : O} {Q : VK}, X.K = Γ.K → G Γ F Fr H L ((v2, o2) :: (v1, o1) :: its) → opItem o1.fr o2.fr = some o →
    (∀ v F' H', Sub F F' → G Γ F' Fr H' L ((v, o) :: its) → Q v H') → r v1 v2 H Q := by
  refine ⟨_, ix_seq, fun {F Fr H L its v1 v2 o1 o2 o Q} hK g e k => ?_⟩
  have r1 := G.view1 g
  have r2 := G.view g
  obtain ⟨F1, s1, g1, p1, p2⟩ := G.freeze2 g
  generalize o1.fr = a at *
  generalize o2.fr = b at *
  obtain ⟨d, hd, rfl⟩ := Option.map_eq_some_iff.mp e
  cases a with
  | lst ds =>
    cases b with
    | int i =>
      obtain ⟨p, vs, rfl, hp, q⟩ := p1
      obtain ⟨j, hj, hx⟩ := Option.bind_eq_some_iff.mp hd
      obtain ⟨u, hu, ru⟩ := q.get hx
      refine .inl ⟨p, vs, i, u, rfl, r2, .inl (.inl (g1.sub _ _ hp)), atI_of (n := ds.length) q.len.symm ?_, k _ F1 H s1 (g1.addF ru)⟩
      rw [hj]; exact hu
    | _ => simp [itemD] at hd
  | tup ds =>
    cases b with
    | int i =>
      obtain ⟨p, vs, rfl, hp, q⟩ := p1
      obtain ⟨j, hj, hx⟩ := Option.bind_eq_some_iff.mp hd
      obtain ⟨u, hu, ru⟩ := q.get hx
      refine .inr (.inl ⟨p, vs, i, u, rfl, r2, .inl (.inl (g1.sub _ _ hp)), atI_of (n := ds.length) q.len.symm ?_, k _ F1 H s1 (g1.addF ru)⟩)
      rw [hj]; exact hu
    | _ => simp [itemD] at hd
  | str s =>
    cases b with
    | int i =>
      simp only [itemD] at hd
      split at hd
      · rename_i hz
        obtain ⟨j, hj, hx⟩ := Option.bind_eq_some_iff.mp hd
        obtain ⟨c, hc, rfl⟩ := Option.map_eq_some_iff.mp hx
        refine .inr (.inr ⟨_, i, c, r1, r2, by rw [Str'_len, ← line_eq]; exact hz, atI_of (n := s.length) rfl ?_, k _ F1 H s1 (g1.addF (d := .str [c]) rfl)⟩)
        rw [hj]; exact hc
      · cases hd
    | _ => simp [itemD] at hd
  | scr ns =>
    cases b with
    | int i =>
      obtain ⟨p, rfl, hp⟩ := r1
      obtain ⟨j, hj, hx⟩ := Option.bind_eq_some_iff.mp hd
      obtain ⟨n, hn, rfl⟩ := Option.map_eq_some_iff.mp hx
      refine .inl ⟨p, _, i, .int n, rfl, r2, (by rw [hK]; exact hp), atI_of (n := ns.length) (by simp) ?_, k _ F1 H s1 (g1.addF (d := .int n) rfl)⟩
      rw [hj]
      simp [hn]
    | _ => simp [itemD] at hd
  | _ => cases b <;> simp [itemD] at hd
end
end FA
namespace FA
open PySem L2
section
variable {X : Cx} {Γ : Wd} {W : WX} {e a b c : Expr} {pos : Pos} {ca cb cc : Ex} {pa pb : Px} {ta tb : Tx} {F F' Fr H H' : Hp} {σ : St} {ρ ρ' : Env} {ts : Bag} {v : V} {o : O}
theorem GS.g2 (g : GS Γ F Fr H σ ρ ts) {us : Bag} {F' H' : Hp} (g' : G Γ F' Fr H' [] (us ++ (ts ++ live σ ρ))) : GS Γ F' Fr H' σ ρ (us ++ ts) := ⟨g.ok, by rw [List.append_assoc]; exact g'⟩
theorem RepO.same (h : Sub F F') (h' : Sub H H') {o : O} {v : V} {fp : List Addr} : RepO Γ F H o v fp → RepO Γ F' H' o v fp := by
  intro r
  -- all that it owns is told by H
  have key : ∀ {o : O} {v : V} {fp : List Addr}, RepO Γ F H o v fp → ∀ a ∈ fp, ∃ u, H a = some u := by
    intro o v fp r
    exact owns r
  exact r.frame h fun a ha => by
    obtain ⟨u, hu⟩ := key r a ha
    rw [hu]; exact h' _ _ hu
where
  owns : ∀ {o : O} {v : V} {fp : List Addr}, RepO Γ F H o v fp → ∀ a ∈ fp, ∃ u, H a = some u
  | .fz _, _, _, ⟨_, e⟩, a, ha => by rw [e] at ha; cases ha
  | .lst _, _, _, ⟨a, vs, f, e, q, ef, r⟩, b, hb => by
    rw [ef] at hb
    rcases List.mem_cons.mp hb with rfl | hb
    · exact ⟨_, q⟩
    · exact ownss r b hb
  | .tup _, _, _, ⟨a, vs, e, q, r⟩, b, hb => ownss r b hb
  | .dic _, _, _, ⟨a, vs, f, e, q, ef, r⟩, b, hb => by
    rw [ef] at hb
    rcases List.mem_cons.mp hb with rfl | hb
    · rcases q with ⟨kk, e, _⟩ | ⟨⟨xs, e, _⟩⟩ <;> exact ⟨_, e⟩
    · exact ownsk r b hb
  | .ins _ _, _, _, ⟨a, C, dx, fvs, f, e, c, q, ef, r⟩, b, hb => by
    rw [ef] at hb
    rcases List.mem_cons.mp hb with rfl | hb
    · exact ⟨_, q⟩
    · exact ownsf r b hb
  ownss : ∀ {os : List O} {vs : List V} {fp : List Addr}, RepOs Γ F H os vs fp → ∀ a ∈ fp, ∃ u, H a = some u
  | [], _, _, ⟨_, e⟩, a, ha => by rw [e] at ha; cases ha
  | _ :: _, _, _, ⟨v, vr, f1, f2, e, ef, r, s⟩, b, hb => by
    rw [ef] at hb
    exact (List.mem_append.mp hb).elim (owns r b) (ownss s b)
  ownsk : ∀ {os : List (D × O)} {vs : List (D × V)} {fp : List Addr}, RepOk Γ F H os vs fp → ∀ a ∈ fp, ∃ u, H a = some u
  | [], _, _, ⟨_, e⟩, a, ha => by rw [e] at ha; cases ha
  | (_, _) :: _, _, _, ⟨v, vr, f1, f2, e, ef, r, s⟩, b, hb => by
    rw [ef] at hb
    exact (List.mem_append.mp hb).elim (owns r b) (ownsk s b)
  ownsf : ∀ {c : String} {os : List (String × O)} {vs : List (Str × V)} {fp : List Addr}, RepOf Γ F H c os vs fp → ∀ a ∈ fp, ∃ u, H a = some u
  | _, [], _, _, ⟨_, e⟩, a, ha => by rw [e] at ha; cases ha
  | _, (_, _) :: _, _, _, ⟨v, vr, f1, f2, e, c, ef, r, s⟩, b, hb => by
    rw [ef] at hb
    exact (List.mem_append.mp hb).elim (owns r b) (ownsf s b)
theorem dp_var (i : Nat) {x : Str} (hN : X.N[i]? = some x := by rfl) (hv : Vis X.env.scope x := by first | exact Or.inl rfl | exact Or.inr (Or.inl rfl) | exact Or.inr (Or.inr rfl)) (hd : (x == ("__debug__" : Str)) = false := by decide)
    (hcd : (x == ("__classdict__" : Str)) = false := by decide) : DenP X Γ (.Name x pos) (pV i) := pe_imp (pv i hN hv hd hcd) fun σ H Q ⟨ρ, F, Fr, ts, o, g, e, k⟩ => by
  have e' : ρ[i]? = some (some o) := by
    unfold pV at e
    split at e
    · rename_i x hx; cases e; exact hx
    · cases e
  obtain ⟨v, hv, g'⟩ := g.take e'
  obtain ⟨fp, r⟩ := G.head g'.g
  exact ⟨v, hv, k v F H fp (Sub.refl _) (Sub.refl _) g r⟩
theorem dp_const {t : TE} {d : D} (he : PE X e t) (h : ∀ σ H Q, (∀ v, RepF Γ (fun _ => none) d v → Q v H) → t σ H Q) : DenP X Γ e (pC d) := pe_imp he fun σ H Q ⟨ρ, F, Fr, ts, o, g, e, k⟩ => by
  cases e
  exact h σ H Q fun v r => k v F H [] (Sub.refl _) (Sub.refl _) g ⟨RepF.mono (fun _ _ z => by cases z) r, rfl⟩
theorem dp_int {i : Int} {j : Nat} : DenP X Γ (.Constant (.int i) j pos) (pC (.int i)) := dp_const pe_int fun _ _ _ k => k _ rfl
theorem dp_neg {i : Int} {j : Nat} {p : Pos} : DenP X Γ (.UnaryOp .USub (.Constant (.int i) j p) pos) (pC (.int (-i))) := dp_const (pe_un un_neg pe_int) fun _ _ _ k => ⟨i, rfl, k _ rfl⟩
theorem dp_gstr {x y : Str} {s : List Nat} {t : Tok} (hg : Gl X x) (hm : X.mg x = some (.str y t)) (h : y = Str' s := by decide +kernel) (hd : (x == ("__debug__" : Str)) = false := by decide) : DenP X Γ (.Name x pos) (pC (.str s)) := dp_const (pe_glob (v := .str y) hg hm ⟨t, rfl⟩ hd) fun _ _ _ k => k _ (by rw [h]; rfl)
theorem RepOs.get : ∀ {os : List O} {vs : List V} {fp : List Addr} {i : Nat} {o : O}, RepOs Γ F H os vs fp → os[i]? = some o → ∃ v f, vs[i]? = some v ∧ RepO Γ F H o v f
  | [], _, _, _, _, _, e => by simp at e
  | x :: _, _, _, 0, d, ⟨v, vr, f1, f2, e, _, p, _⟩, h => by subst e; simp at h; subst h; exact ⟨v, f1, by simp, p⟩
  | _ :: _, _, _, i + 1, d, ⟨v, vr, f1, f2, e, _, _, q⟩, h => by subst e; simpa using RepOs.get (i := i) q (by simpa using h)
theorem RepOs.len {os : List O} {vs : List V} {fp : List Addr} (r : RepOs Γ F H os vs fp) : vs.length = os.length := r.toL.1
theorem dp_ix (hK : X.K = Γ.K) (ha : DenP X Γ a pa) (hb : DenP X Γ b pb) (hs : PlainIx b) : DenP X Γ (.Subscript a b pos) (pIx pa pb) := pe_imp (pe_ix ix_seq ha hb hs) fun σ H Q ⟨ρ, F, Fr, ts, o, g, e, k⟩ => by
  obtain ⟨o1, h1, e⟩ := Option.bind_eq_some_iff.mp e
  obtain ⟨o2, h2, e⟩ := Option.bind_eq_some_iff.mp e
  refine ⟨ρ, F, Fr, ts, o1, g, h1, fun v1 F1 H1 f1 s1 t1 g1 r1 => ⟨ρ, F1, Fr, ts, o2, g1, h2, fun v2 F2 H2 f2 s2 t2 g2 r2 => ?_⟩⟩
  have r1' := r1.same s2 t2
  have q2 := r2.view g2.sub
  generalize o2.fr = b' at *
  have fin : ∀ u f, RepO Γ F2 H2 o u f → Q u H2 := fun u f r => k u F2 H2 f (s1.trans s2) (t1.trans t2) g2 r
  cases o1 with
  | fz d =>
    obtain ⟨d', hd, rfl⟩ := Option.map_eq_some_iff.mp (show (itemD d b').map .fz = some o from e)
    obtain ⟨p1, _⟩ := r1'
    have fin' : ∀ u, RepF Γ F2 d' u → Q u H2 := fun u r => fin u [] ⟨r, rfl⟩
    cases d with
    | lst ds =>
      cases b' with
      | int i =>
        obtain ⟨p, vs, rfl, hp, q⟩ := p1
        obtain ⟨j, hj, hx⟩ := Option.bind_eq_some_iff.mp hd
        obtain ⟨u, hu, ru⟩ := q.get hx
        refine .inl ⟨p, vs, i, u, rfl, q2, .inl (.inl (g2.sub _ _ hp)), atI_of (n := ds.length) q.len.symm ?_, fin' u ru⟩
        rw [hj]; exact hu
      | _ => simp [itemD] at hd
    | tup ds =>
      cases b' with
      | int i =>
        obtain ⟨p, vs, rfl, hp, q⟩ := p1
        obtain ⟨j, hj, hx⟩ := Option.bind_eq_some_iff.mp hd
        obtain ⟨u, hu, ru⟩ := q.get hx
        refine .inr (.inl ⟨p, vs, i, u, rfl, q2, .inl (.inl (g2.sub _ _ hp)), atI_of (n := ds.length) q.len.symm ?_, fin' u ru⟩)
        rw [hj]; exact hu
      | _ => simp [itemD] at hd
    | str s =>
      cases b' with
      | int i =>
        simp only [itemD] at hd
        split at hd
        · rename_i hz
          obtain ⟨j, hj, hx⟩ := Option.bind_eq_some_iff.mp hd
          obtain ⟨c, hc, rfl⟩ := Option.map_eq_some_iff.mp hx
          refine .inr (.inr ⟨_, i, c, p1, q2, by rw [Str'_len, ← line_eq]; exact hz, atI_of (n := s.length) rfl ?_, fin' _ rfl⟩)
          rw [hj]; exact hc
        · cases hd
      | _ => simp [itemD] at hd
    | scr ns =>
      cases b' with
      | int i =>
        obtain ⟨p, rfl, hp⟩ := p1
        obtain ⟨j, hj, hx⟩ := Option.bind_eq_some_iff.mp hd
        obtain ⟨n, hn, rfl⟩ := Option.map_eq_some_iff.mp hx
        refine .inl ⟨p, _, i, .int n, rfl, q2, (by rw [hK]; exact Same.seq g2.sub hp), atI_of (n := ns.length) (by simp) ?_, fin' _ rfl⟩
        rw [hj]
        simp [hn]
      | _ => simp [itemD] at hd
    | _ => cases b' <;> simp [itemD] at hd
  | lst os =>
    cases b' with
    | int i =>
      obtain ⟨p, vs, f, rfl, hp, ef, q⟩ := r1'
      obtain ⟨j, hj, hx⟩ := Option.bind_eq_some_iff.mp (show ((idx os.length i).bind fun k => os[k]?) = some o from e)
      obtain ⟨u, fu, hu, ru⟩ := q.get hx
      refine .inl ⟨p, vs, i, u, rfl, q2, .inl (.inl hp), atI_of (n := os.length) q.len.symm ?_, fin u fu ru⟩
      rw [hj]; exact hu
    | _ => simp [itemO] at e
  | tup os =>
    cases b' with
    | int i =>
      obtain ⟨p, vs, rfl, hp, q⟩ := r1'
      obtain ⟨j, hj, hx⟩ := Option.bind_eq_some_iff.mp (show ((idx os.length i).bind fun k => os[k]?) = some o from e)
      obtain ⟨u, fu, hu, ru⟩ := q.get hx
      refine .inr (.inl ⟨p, vs, i, u, rfl, q2, .inl (.inl (g2.sub _ _ hp)), atI_of (n := os.length) q.len.symm ?_, fin u fu ru⟩)
      rw [hj]; exact hu
    | _ => simp [itemO] at e
  | _ => cases b' <;> simp [itemO] at e
theorem RepFf.get : ∀ {c : String} {fs : List (String × D)} {fvs : List (Str × V)} {f : String} {d : D}, RepFf Γ F c fs fvs → getF fs f = some d → ∃ v, fvs.lookup (Str.ofString f) = some v ∧ RepF Γ F d v ∧ f ∈ attrsOf c
  | _, [], _, _, _, _, h => by simp [getF] at h
  | c, (k, d') :: r, _, f, d, ⟨v, vr, e, hc, p, q⟩, h => by
    subst e
    by_cases hf : f = k
    · subst hf
      simp [getF] at h
      subst h
      exact ⟨v, by simp [List.lookup], p, hc⟩
    · have h' : getF r f = some d := by simpa [getF, hf] using h
      obtain ⟨u, hu, ru, hm⟩ := RepFf.get q h'
      refine ⟨u, ?_, ru, hm⟩
      rw [List.lookup_cons]
      have : (Str.ofString f == Str.ofString k) = false := by
        rw [beq_eq_false_iff_ne]
        intro z
        rw [Str.ofString_eq_toList, Str.ofString_eq_toList] at z
        have z2 : f.toList.map Char.toNat = k.toList.map Char.toNat := by
          have := congrArg (fun s : Str => s.cps.toList) z
          simpa using this
        have inj : ∀ {l m : List Char}, l.map Char.toNat = m.map Char.toNat → l = m := by
          intro l
          induction l with
          | nil => intro m h; cases m with
            | nil => rfl
            | cons _ _ => simp at h
          | cons a t ih =>
            intro m h
            cases m with
            | nil => simp at h
            | cons b u =>
              simp only [List.map_cons, List.cons.injEq] at h
              have : a = b := Char.toNat_inj.mp h.1
              rw [this, ih h.2]
        exact hf (String.toList_inj.mp (inj z2))
      rw [this]
      exact hu
theorem RepOf.get : ∀ {c : String} {fs : List (String × O)} {fvs : List (Str × V)} {fp : List Addr} {f : String} {o : O}, RepOf Γ F H c fs fvs fp → getF fs f = some o → ∃ v fu, fvs.lookup (Str.ofString f) = some v ∧ RepO Γ F H o v fu ∧ f ∈ attrsOf c
  | _, [], _, _, _, _, _, h => by simp [getF] at h
  | c, (k, d') :: r, _, _, f, d, ⟨v, vr, f1, f2, e, hc, _, p, q⟩, h => by
    subst e
    by_cases hf : f = k
    · subst hf
      simp [getF] at h
      subst h
      exact ⟨v, f1, by simp [List.lookup], p, hc⟩
    · have h' : getF r f = some d := by simpa [getF, hf] using h
      obtain ⟨u, fu, hu, ru, hm⟩ := RepOf.get q h'
      refine ⟨u, fu, ?_, ru, hm⟩
      rw [List.lookup_cons]
      have : (Str.ofString f == Str.ofString k) = false := by
        rw [beq_eq_false_iff_ne]
        intro z
        rw [Str.ofString_eq_toList, Str.ofString_eq_toList] at z
        have z2 : f.toList.map Char.toNat = k.toList.map Char.toNat := by
          have := congrArg (fun s : Str => s.cps.toList) z
          simpa using this
        have inj : ∀ {l m : List Char}, l.map Char.toNat = m.map Char.toNat → l = m := by
          intro l
          induction l with
          | nil => intro m h; cases m with
            | nil => rfl
            | cons _ _ => simp at h
          | cons a t ih =>
            intro m h
            cases m with
            | nil => simp at h
            | cons b u =>
              simp only [List.map_cons, List.cons.injEq] at h
              have : a = b := Char.toNat_inj.mp h.1
              rw [this, ih h.2]
        exact hf (String.toList_inj.mp (inj z2))
      rw [this]
      exact hu
/-- the classes as the top has made them -/
structure ClsOk (K : PySem.W.Frag) (ct : CT) : Prop where
  cls : ∀ c C, ct c = some C → Cls K C
  no : ∀ c C f, ct c = some C → f ∈ attrsOf c → NoAttr K C (Str.ofString f)
theorem dp_fld {f : String} (hK : X.K = Γ.K) (hC : ClsOk Γ.K Γ.ct) (ha : DenP X Γ a pa) (hb : attributeBase a (Str.ofString f) X.env (eval a X.env) = eval a X.env := by rfl) : DenP X Γ (.Attribute a (Str.ofString f) pos) (pFld pa f) := pe_imp (pe_fld ha hb) fun σ H Q ⟨ρ, F, Fr, ts, o, g, e, k⟩ => by
  obtain ⟨o1, h1, e⟩ := Option.bind_eq_some_iff.mp e
  refine ⟨ρ, F, Fr, ts, o1, g, h1, fun v1 F1 H1 f1 s1 t1 g1 r1 => ?_⟩
  rw [hK]
  cases o1 with
  | fz d =>
    cases d with
    | ins c fs =>
      obtain ⟨d', hd, rfl⟩ := Option.map_eq_some_iff.mp (show (getF fs f).map .fz = some o from e)
      obtain ⟨⟨p, C, dx, fvs, rfl, hc, hp, q⟩, _⟩ := r1
      obtain ⟨u, hu, ru, hm⟩ := q.get hd
      exact ⟨p, C, dx, fvs, u, rfl, g1.sub _ _ hp, hC.cls _ _ hc, hC.no _ _ _ hc hm, hu, k u F1 H1 [] s1 t1 g1 ⟨ru, rfl⟩⟩
    | _ => simp [fldO] at e
  | ins c fs =>
    obtain ⟨p, C, dx, fvs, f', rfl, hc, hp, _, q⟩ := r1
    obtain ⟨u, fu, hu, ru, hm⟩ := q.get (show getF fs f = some o from e)
    exact ⟨p, C, dx, fvs, u, rfl, hp, hC.cls _ _ hc, hC.no _ _ _ hc hm, hu, k u F1 H1 fu s1 t1 g1 ru⟩
  | _ => simp [fldO] at e
theorem de_p (h : DenP X Γ e pa) : DenE X Γ W e (eP pa) := pe_imp h fun σ H Q ⟨ρ, F, Fr, ts, g, m⟩ => by
  unfold eP at m
  split at m
  · rename_i d hd
    exact ⟨ρ, F, Fr, ts, _, g, hd, fun v F' H' fp s t g' r => m F' H' s v (g'.addF r.1)⟩
  · exact False.elim m
theorem de_frz (i : Nat) {x : Str} (hN : X.N[i]? = some x := by rfl) (hv : Vis X.env.scope x := by first | exact Or.inl rfl | exact Or.inr (Or.inl rfl) | exact Or.inr (Or.inr rfl)) (hd : (x == ("__debug__" : Str)) = false := by decide)
    (hcd : (x == ("__classdict__" : Str)) = false := by decide) : DenE X Γ W (.Name x pos) (eFrz i) := pe_imp (pv i hN hv hd hcd) fun σ H Q ⟨ρ, F, Fr, ts, g, m⟩ => by
  unfold eFrz at m
  split at m
  · rename_i o' ho
    obtain ⟨v, hv, g'⟩ := g.take ho
    obtain ⟨F1, s1, g1⟩ := g'.freeze
    have hi : i < ρ.length := (List.getElem?_eq_some_iff.mp ho).1
    have g2 : GS Γ F1 Fr H σ (ρ.set i none) ((v, .fz o'.fr) :: (v, .fz o'.fr) :: ts) := g1.addF g1.fzF
    have g3 : GS Γ F1 Fr H σ (ρ.set i (some (.fz o'.fr))) ((v, .fz o'.fr) :: ts) := g2.put hi hv
    exact ⟨v, hv, m F1 H s1 v g3⟩
  · exact False.elim m
theorem de_const {t : TE} {d : D} (he : PE X e t) (h : ∀ σ H Q, (∀ v, RepF Γ (fun _ => none) d v → Q v H) → t σ H Q) : DenE X Γ W e (eC d) := pe_imp he fun σ H Q ⟨ρ, F, Fr, ts, g, m⟩ =>
  h σ H Q fun v r => m F H (Sub.refl _) v (g.addF (RepF.mono (fun _ _ z => by cases z) r))
theorem de_int {i : Int} {j : Nat} : DenE X Γ W (.Constant (.int i) j pos) (eC (.int i)) := de_const pe_int fun _ _ _ k => k _ rfl
theorem de_neg {i : Int} {j : Nat} {p : Pos} : DenE X Γ W (.UnaryOp .USub (.Constant (.int i) j p) pos) (eC (.int (-i))) := de_const (pe_un un_neg pe_int) fun _ _ _ k => ⟨i, rfl, k _ rfl⟩
theorem de_bl {i : Bool} {j : Nat} : DenE X Γ W (.Constant (.bool i) j pos) (eC (.bl i)) := de_const pe_bl fun _ _ _ k => k _ rfl
theorem de_non {j : Nat} : DenE X Γ W (.Constant .none j pos) (eC .non) := de_const pe_non fun _ _ _ k => k _ rfl
theorem de_str {x : Str} {s : List Nat} {j : Nat} (h : x = Str' s := by decide +kernel) : DenE X Γ W (.Constant (.str x) j pos) (eC (.str s)) := de_const pe_str fun _ _ _ k => k _ (by rw [h]; rfl)
theorem de_gint {x : Str} {i : Int} {t : Tok} (hg : Gl X x) (hm : X.mg x = some (.int i t)) (hd : (x == ("__debug__" : Str)) = false := by decide) : DenE X Γ W (.Name x pos) (eC (.int i)) := de_const (pe_glob (v := .int i) hg hm ⟨t, rfl⟩ hd) fun _ _ _ k => k _ rfl
theorem de_bin {op : Operator} {f : Op2} (ho : Op2S X Γ (binaryOp op) f) (ha : DenE X Γ W a ca) (hb : DenE X Γ W b cb) : DenE X Γ W (.BinOp a op b pos) (e2 f ca cb) := by
  obtain ⟨r, hr, k⟩ := ho
  refine pe_imp (pe_op hr ha hb) fun σ H Q ⟨ρ, F, Fr, ts, g, m⟩ => ⟨ρ, F, Fr, ts, g, m.bind0.mono fun o1 ρ1 F1 H1 s1 m1 v1 g1 => ⟨ρ1, F1, Fr, _, g1, (m1.bind [(v1, o1)]).mono fun o2 ρ2 F2 H2 s2 m2 v2 g2 => ?_⟩⟩
  obtain ⟨o, e, m3⟩ := m2.opt
  exact k g2.g e fun v F' H' s g' => m3 F' H' s v ⟨g2.ok, g'⟩
theorem de_cmp {op : CmpOp} {f : Op2} (ho : Op2S X Γ (compareOp op) f) (ha : DenE X Γ W a ca) (hb : DenE X Γ W b cb) (hm : behindInMarks op b = false := by first | exact nomark _ | rfl) : DenE X Γ W (.Compare a [op] [b] pos) (e2 f ca cb) := by
  obtain ⟨r, hr, k⟩ := ho
  refine pe_imp (pe_cmpR hr ha hb hm) fun σ H Q ⟨ρ, F, Fr, ts, g, m⟩ => ⟨ρ, F, Fr, ts, g, m.bind0.mono fun o1 ρ1 F1 H1 s1 m1 v1 g1 => ⟨ρ1, F1, Fr, _, g1, (m1.bind [(v1, o1)]).mono fun o2 ρ2 F2 H2 s2 m2 v2 g2 => ?_⟩⟩
  obtain ⟨o, e, m3⟩ := m2.opt
  exact k g2.g e fun v F' H' s g' => m3 F' H' s v ⟨g2.ok, g'⟩
end
end FA
namespace FA
open PySem L2
section
variable {X : Cx} {Γ : Wd} {W : WX} {e a b c : Expr} {pos : Pos} {ca cb cc : Ex} {pa pb : Px} {ta tb tc : Tx} {F F' Fr H H' : Hp} {σ : St} {ρ ρ' : Env} {ts : Bag} {v : V} {o : O}
theorem de_item (hK : X.K = Γ.K) (ha : DenE X Γ W a ca) (hb : DenE X Γ W b cb) (hs : PlainIx b) : DenE X Γ W (.Subscript a b pos) (e2 opItem ca cb) := by
  obtain ⟨r, hr, k⟩ := s_item (X := X) (Γ := Γ)
  refine pe_imp (pe_ix hr ha hb hs) fun σ H Q ⟨ρ, F, Fr, ts, g, m⟩ => ⟨ρ, F, Fr, ts, g, m.bind0.mono fun o1 ρ1 F1 H1 s1 m1 v1 g1 => ⟨ρ1, F1, Fr, _, g1, (m1.bind [(v1, o1)]).mono fun o2 ρ2 F2 H2 s2 m2 v2 g2 => ?_⟩⟩
  obtain ⟨o, e, m3⟩ := m2.opt
  exact k hK g2.g e fun v F' H' s g' => m3 F' H' s v ⟨g2.ok, g'⟩
/-- a in p, p looked at where it stands -/
theorem de_inP {op : CmpOp} {f : Op2} (ho : Op2B X Γ (compareOp op) f) (ha : DenE X Γ W a ca) (hb : DenP X Γ b pb) (hm : behindInMarks op b = false := by first | exact nomark _ | rfl) : DenE X Γ W (.Compare a [op] [b] pos) (e2P f ca pb) := by
  obtain ⟨r, hop, k⟩ := ho
  refine pe_imp (pe_cmpR hop ha hb hm) fun σ H Q ⟨ρ, F, Fr, ts, g, m⟩ => ⟨ρ, F, Fr, ts, g, m.bind0.mono fun o1 ρ1 F1 H1 s1 m1 v1 g1 => ?_⟩
  split at m1
  · rename_i y hy
    refine ⟨ρ1, F1, Fr, _, y, g1, hy, fun v2 F2 H2 fp s2 t2 g2 r2 => ?_⟩
    obtain ⟨o, e, m3⟩ := m1.opt
    exact k g2.view (r2.view g2.sub) e fun x hx => m3 F2 H2 s2 (.bl x) (g2.tail.addF (d := .bl x) rfl |> fun z => by rw [hx]; exact z)
  · exact False.elim m1
theorem da_nil : DenA X Γ W [] [] := pa_imp pa_nil fun σ H Q ⟨ρ, F, Fr, ts, g, m⟩ => m F H (Sub.refl _) [] rfl g
theorem da_cons {es : List Expr} {cs : List Ex} (ha : DenE X Γ W e ca) (hr : DenA X Γ W es cs) (hs : starEach (e :: es) X.env = (false, eval e X.env) :: starEach es X.env := by rfl) : DenA X Γ W (e :: es) (ca :: cs) := by
  refine pa_imp (pa_cons ha hr hs) fun σ H Q ⟨ρ, F, Fr, ts, g, m⟩ => ⟨ρ, F, Fr, ts, g, (Post.bind0 m).mono fun o1 ρ1 F1 H1 s1 m1 v1 g1 => ?_⟩
  refine ⟨ρ1, F1, Fr, _, g1, (Post.bind [(v1, o1)] m1).mono fun os ρ2 F2 H2 s2 m2 vs hl g2 => ?_⟩
  exact m2 F2 H2 (Sub.refl _) (v1 :: vs) (by simp [hl]) (g2.perm List.perm_middle)
theorem eAll_len : ∀ {cs : List Ex} {ρ ρ' : Env} {os : List O}, eAll cs ρ = .ok os ρ' → os.length = cs.length
  | [], _, _, _, e => by cases e; rfl
  | c :: r, ρ, _, _, e => by
    unfold eAll at e
    cases h : c ρ with
    | ok x ρ1 =>
      rw [h] at e
      cases h2 : eAll r ρ1 with
      | ok xs ρ2 =>
        have e' : (eAll r ρ1).bind (fun xs ρ => R.ok (x :: xs) ρ) = _ := e
        rw [h2] at e'
        cases e'
        simp [eAll_len h2]
      | exc y ds ρ2 =>
        have e' : (eAll r ρ1).bind (fun xs ρ => R.ok (x :: xs) ρ) = _ := e
        rw [h2] at e'; cases e'
      | st =>
        have e' : (eAll r ρ1).bind (fun xs ρ => R.ok (x :: xs) ρ) = _ := e
        rw [h2] at e'; cases e'
    | exc x ds ρ1 => rw [h] at e; cases e
    | st => rw [h] at e; cases e
theorem few {n : Nat} (h : n ≤ 1000) : n ≤ sizeLine := by rw [sizeLine_eq]; omega
theorem de_lst {es : List Expr} {cs : List Ex} (h : DenA X Γ W es cs) (hn : cs.length ≤ 1000 := by simp; done) : DenE X Γ W (.List es pos) (eLst cs) := by
  refine pe_imp (pe_lst h) fun σ H Q ⟨ρ, F, Fr, ts, g, m⟩ => ⟨ρ, F, Fr, ts, g, (Post.bind0 m).monoE fun os ρ1 F1 H1 e1 s1 m1 vs hl g1 => ⟨?_, fun p hp => m1 F1 _ (Sub.refl _) (.ref p) ⟨g1.ok, ?_⟩⟩⟩
  · rw [hl, eAll_len e1]; exact few hn
  · have := g1.g
    rw [List.append_assoc] at this
    exact G.mkLO this hl hp
theorem allFz_rep : ∀ {os : List O} {ds : List D} {vs : List V} {its : Bag}, allFz os = some ds → vs.length = os.length → G Γ F Fr H [] (vs.zip os ++ its) → RepFs Γ F ds vs ∧ G Γ F Fr H [] its
  | [], _, [], _, e, _, g => by cases e; exact ⟨rfl, g⟩
  | [], _, _ :: _, _, _, l, _ => by simp at l
  | _ :: _, _, [], _, _, l, _ => by simp at l
  | o :: r, ds, v :: vr, its, e, l, g => by
    cases o with
    | fz d =>
      obtain ⟨ds', h, rfl⟩ := Option.map_eq_some_iff.mp (show (allFz r).map (d :: ·) = some ds by simpa [allFz, isFz] using e)
      have g' : G Γ F Fr H [] ((v, .fz d) :: (vr.zip r ++ its)) := g
      obtain ⟨a, b⟩ := allFz_rep h (by simpa using l) g'.tail
      exact ⟨⟨v, vr, rfl, g'.fzF, a⟩, b⟩
    | _ => simp [allFz, isFz] at e
theorem de_tup {es : List Expr} {k : Nat} {cs : List Ex} (h : DenA X Γ W es cs) (hn : cs.length ≤ 1000 := by simp; done) : DenE X Γ W (.Tuple es k pos) (eTup cs) := by
  refine pe_imp (pe_tup h) fun σ H Q ⟨ρ, F, Fr, ts, g, m⟩ => ⟨ρ, F, Fr, ts, g, (Post.bind0 m).monoE fun os ρ1 F1 H1 e1 s1 m1 vs hl g1 => ⟨?_, fun p hp => ?_⟩⟩
  · rw [hl, eAll_len e1]; exact few hn
  · have g0 := g1.g
    rw [List.append_assoc] at g0
    unfold tupO at m1
    cases e : allFz os with
    | some ds =>
      rw [e] at m1
      obtain ⟨r, g2⟩ := allFz_rep e hl g0
      obtain ⟨F2, s2, g3⟩ := G.mkT (p := p) g2 r hp
      exact m1 F2 _ s2 (.ref p) ⟨g1.ok, g3⟩
    | none =>
      rw [e] at m1
      obtain ⟨a1, a2, a3, fp, nd, al, r⟩ := g0.newF (p := p) (u := .tup vs) hp
      obtain ⟨f1, f2, rfl, r1, r2⟩ := r.split
      exact m1 _ _ (g0.newSub hp) (.ref p) ⟨g1.ok, a1, a2, a3, f1 ++ f2, nd, al, f1, f2, rfl, ⟨p, vs, rfl, upd_same, .ofL hl r1⟩, r2⟩
theorem truV_of (hK : X.K = Γ.K) {d : D} {b : Bool} (r : RepF Γ H d v) (h : truD d = some b) : TruV X.K v H b := by
  cases d with
  | non => rw [show v = _ from r]; cases h; rfl
  | bl x => rw [show v = _ from r]; cases h; rfl
  | int i => rw [show v = _ from r]; cases h; rfl
  | str s =>
    rw [show v = _ from r]
    simp only [truD] at h
    split at h
    · rename_i hz
      cases h
      refine ⟨by rw [Str'_len, ← line_eq]; exact hz, ?_⟩
      rw [Str'_len]
      rw [Bool.eq_iff_iff]; simp
    · cases h
  | lst ds =>
    obtain ⟨a, vs, rfl, e, q⟩ := r
    cases h
    refine .inl ⟨vs, .inl (.inl e), ?_⟩
    have := q.len
    cases ds <;> cases vs <;> first | rfl | simp at this
  | tup ds =>
    obtain ⟨a, vs, rfl, e, q⟩ := r
    cases h
    refine .inr (.inl ⟨vs, .inl (.inl e), ?_⟩)
    have := q.len
    cases ds <;> cases vs <;> first | rfl | simp at this
  | _ => simp [truD] at h
theorem dt_e (hK : X.K = Γ.K) (h : DenE X Γ W a ca) (he : ∀ whole, isTrue a X.env whole = (do let v ← whole; standAt a.pos; holding [v] (truthy v)) := by intro _; rfl) : DenT X Γ W a (tE ca) := by
  refine pt_imp (pt_truth h he) fun σ H Q ⟨ρ, F, Fr, ts, g, m⟩ => ⟨ρ, F, Fr, ts, g, (Post.bind0 m).mono fun o1 ρ1 F1 H1 s1 m1 v1 g1 => ?_⟩
  obtain ⟨b, hb, m2⟩ := m1.opt
  exact ⟨b, truV_of hK g1.view hb, m2 F1 H1 (Sub.refl _) g1.tail⟩
theorem dt_p (hK : X.K = Γ.K) (h : DenP X Γ a pa) (he : ∀ whole, isTrue a X.env whole = (do let v ← whole; standAt a.pos; holding [v] (truthy v)) := by intro _; rfl) : DenT X Γ W a (tP pa) := by
  refine pt_imp (pt_truth h he) fun σ H Q ⟨ρ, F, Fr, ts, g, m⟩ => ?_
  unfold tP at m
  split at m
  · rename_i x hx
    obtain ⟨b, hb, m2⟩ := m.opt
    exact ⟨ρ, F, Fr, ts, x, g, hx, fun v F' H' fp s t g' r => ⟨b, truV_of hK (r.view g'.sub) hb, m2 F' H' s g'⟩⟩
  · exact False.elim m
/-- a comparison as a test: what it gives is a bool -/
theorem dt_b {t : TE} (ht : PT X a (tTest t)) (hi : ∀ σ H Q, tD Γ W ca σ H Q → t σ H Q) (hb : ∀ ρ o ρ', ca ρ = .ok o ρ' → ∃ b, o = boolO b) : DenT X Γ W a (tE ca) := by
  refine pt_imp ht fun σ H Q ⟨ρ, F, Fr, ts, g, m⟩ => hi σ H _ ⟨ρ, F, Fr, ts, g, (Post.bind0 m).monoE fun o1 ρ1 F1 H1 e1 s1 m1 v1 g1 => ?_⟩
  obtain ⟨b, hb', m2⟩ := m1.opt
  obtain ⟨x, rfl⟩ := hb _ _ _ e1
  cases hb'
  exact ⟨_, g1.fzF, m2 F1 H1 (Sub.refl _) g1.tail⟩
theorem e2_bool {f : Op2} (hf : ∀ x y o, f x y = some o → ∃ b, o = boolO b) : ∀ ρ o ρ', e2 f ca cb ρ = .ok o ρ' → ∃ b, o = boolO b := by
  intro ρ o ρ' e
  unfold e2 at e
  cases h : ca ρ with
  | ok x ρ1 =>
    rw [h] at e
    have e' : (cb ρ1).bind (fun y ρ => ofOpt (f x.fr y.fr) ρ) = .ok o ρ' := e
    cases h2 : cb ρ1 with
    | ok y ρ2 =>
      rw [h2] at e'
      have e'' : ofOpt (f x.fr y.fr) ρ2 = .ok o ρ' := e'
      cases h3 : f x.fr y.fr with
      | none => rw [h3] at e''; cases e''
      | some z => rw [h3] at e''; cases e''; exact hf _ _ _ h3
    | exc _ _ _ => rw [h2] at e'; cases e'
    | st => rw [h2] at e'; cases e'
  | exc _ _ _ => rw [h] at e; cases e
  | st => rw [h] at e; cases e
theorem e2P_bool {f : Op2} (hf : ∀ x y o, f x y = some o → ∃ b, o = boolO b) : ∀ ρ o ρ', e2P f ca pb ρ = .ok o ρ' → ∃ b, o = boolO b := by
  intro ρ o ρ' e
  unfold e2P at e
  cases h : ca ρ with
  | ok x ρ1 =>
    rw [h] at e
    have e' : (match pb ρ1 with | some y => ofOpt (f x.fr y.fr) ρ1 | none => .st) = R.ok o ρ' := e
    split at e'
    · rename_i y hy
      cases h3 : f x.fr y.fr with
      | none => rw [h3] at e'; cases e'
      | some z => rw [h3] at e'; cases e'; exact hf _ _ _ h3
    · cases e'
  | exc _ _ _ => rw [h] at e; cases e
  | st => rw [h] at e; cases e
def OpB (f : Op2) : Prop := ∀ x y o, f x y = some o → ∃ b, o = boolO b
theorem ob_eq : OpB opEq := fun x y o e => by unfold opEq at e; split at e <;> simp at e; exact ⟨_, e.symm⟩
theorem ob_ne : OpB opNe := fun x y o e => by unfold opNe at e; split at e <;> simp at e; exact ⟨_, e.symm⟩
theorem ob_lt : OpB opLt := fun x y o e => by
  unfold opLt at e
  split at e
  · simp at e; exact ⟨_, e.symm⟩
  · obtain ⟨b, _, rfl⟩ := Option.map_eq_some_iff.mp e; exact ⟨b, rfl⟩
theorem ob_gt : OpB opGt := fun x y o e => by
  unfold opGt at e
  split at e
  · simp at e; exact ⟨_, e.symm⟩
  · cases e
theorem ob_le : OpB opLe := fun x y o e => by
  unfold opLe at e
  split at e
  · simp at e; exact ⟨_, e.symm⟩
  · cases e
theorem ob_in : OpB opIn := fun x y o e => by obtain ⟨b, _, rfl⟩ := Option.map_eq_some_iff.mp e; exact ⟨b, rfl⟩
theorem ob_notin : OpB opNotIn := fun x y o e => by obtain ⟨b, _, rfl⟩ := Option.map_eq_some_iff.mp e; exact ⟨!b, rfl⟩
theorem ob_is : OpB opIs := fun x y o e => by obtain ⟨b, _, rfl⟩ := Option.map_eq_some_iff.mp e; exact ⟨b, rfl⟩
theorem ob_isnot : OpB opIsNot := fun x y o e => by obtain ⟨b, _, rfl⟩ := Option.map_eq_some_iff.mp e; exact ⟨!b, rfl⟩
theorem dt_cmp {op : CmpOp} {f : Op2} (ho : Op2S X Γ (compareOp op) f) (hf : OpB f) (ha : DenE X Γ W a ca) (hb : DenE X Γ W b cb) (hm : behindInMarks op b = false := by first | exact nomark _ | rfl) : DenT X Γ W (.Compare a [op] [b] pos) (tE (e2 f ca cb)) := by
  obtain ⟨r, hr, k⟩ := ho
  refine dt_b (pt_cmpR hr ha hb hm) (fun σ H Q ⟨ρ, F, Fr, ts, g, m⟩ => ⟨ρ, F, Fr, ts, g, m.bind0.mono fun o1 ρ1 F1 H1 s1 m1 v1 g1 => ⟨ρ1, F1, Fr, _, g1, (m1.bind [(v1, o1)]).mono fun o2 ρ2 F2 H2 s2 m2 v2 g2 => ?_⟩⟩) (e2_bool hf)
  obtain ⟨o, e, m3⟩ := m2.opt
  exact k g2.g e fun v F' H' s g' => m3 F' H' s v ⟨g2.ok, g'⟩
theorem dt_inP {op : CmpOp} {f : Op2} (ho : Op2B X Γ (compareOp op) f) (hf : OpB f) (ha : DenE X Γ W a ca) (hb : DenP X Γ b pb) (hm : behindInMarks op b = false := by first | exact nomark _ | rfl) : DenT X Γ W (.Compare a [op] [b] pos) (tE (e2P f ca pb)) := by
  obtain ⟨r, hop, k⟩ := ho
  refine dt_b (pt_cmpR hop ha hb hm) (fun σ H Q ⟨ρ, F, Fr, ts, g, m⟩ => ⟨ρ, F, Fr, ts, g, m.bind0.mono fun o1 ρ1 F1 H1 s1 m1 v1 g1 => ?_⟩) (e2P_bool hf)
  split at m1
  · rename_i y hy
    refine ⟨ρ1, F1, Fr, _, y, g1, hy, fun v2 F2 H2 fp s2 t2 g2 r2 => ?_⟩
    obtain ⟨o, e, m3⟩ := m1.opt
    exact k g2.view (r2.view g2.sub) e fun x hx => m3 F2 H2 s2 (.bl x) (g2.tail.addF (d := .bl x) rfl |> fun z => by rw [hx]; exact z)
  · exact False.elim m1
theorem dt_not (h : DenT X Γ W a ta) : DenT X Γ W (.UnaryOp .Not a pos) (tNot ta) := by
  refine pt_imp (pt_not h) fun σ H Q ⟨ρ, F, Fr, ts, g, m⟩ => ⟨ρ, F, Fr, ts, g, (Post.bind0 m).mono fun b ρ1 F1 H1 s1 m1 g1 => ?_⟩
  exact m1 F1 H1 (Sub.refl _) g1
abbrev DenW (X : Cx) (Γ : Wd) (W : WX) (e : Expr) (c : Tx) : Prop := PW X e (tDT Γ W c)
theorem pw_imp {t t' : TT} (h : PW X e t) (i : ∀ σ H Q, t' σ H Q → t σ H Q) : PW X e t' := ⟨fun wh pins s σ H Q I q => h.run wh pins s σ H Q I (i σ H Q q)⟩
theorem dw_and {rest : List Expr} (ha : DenT X Γ W a ta) (hb : DenW X Γ W (.BoolOp .And (b :: rest) pos) tb) : DenW X Γ W (.BoolOp .And (a :: b :: rest) pos) (tAnd ta tb) := by
  refine pw_imp (pw_and ha hb) fun σ H Q ⟨ρ, F, Fr, ts, g, m⟩ => ⟨ρ, F, Fr, ts, g, (Post.bind0 m).mono fun x ρ1 F1 H1 s1 m1 g1 => ?_⟩
  cases x with
  | true => exact iteT ⟨ρ1, F1, Fr, ts, g1, m1⟩
  | false => exact iteF (m1 F1 H1 (Sub.refl _) g1)
theorem dw_or {rest : List Expr} (ha : DenT X Γ W a ta) (hb : DenW X Γ W (.BoolOp .Or (b :: rest) pos) tb) : DenW X Γ W (.BoolOp .Or (a :: b :: rest) pos) (tOr ta tb) := by
  refine pw_imp (pw_or ha hb) fun σ H Q ⟨ρ, F, Fr, ts, g, m⟩ => ⟨ρ, F, Fr, ts, g, (Post.bind0 m).mono fun x ρ1 F1 H1 s1 m1 g1 => ?_⟩
  cases x with
  | true => exact iteT (m1 F1 H1 (Sub.refl _) g1)
  | false => exact iteF ⟨ρ1, F1, Fr, ts, g1, m1⟩
theorem dw_and1 (ha : DenT X Γ W a ta) : DenW X Γ W (.BoolOp .And [a] pos) ta := pw_and1 ha
theorem dw_or1 (ha : DenT X Γ W a ta) : DenW X Γ W (.BoolOp .Or [a] pos) ta := pw_or1 ha
theorem dt_w (h : DenW X Γ W e tc) : DenT X Γ W e tc := h.pt
theorem de_one {op : BoolOp} (h : DenE X Γ W a ca) : DenE X Γ W (.BoolOp op [a] pos) ca := pe_one h
theorem de_and {rest : List Expr} (ha : DenE X Γ W a ca) (hb : DenE X Γ W (.BoolOp .And (b :: rest) pos) cb) : DenE X Γ W (.BoolOp .And (a :: b :: rest) pos) (eAnd ca cb) := by
  refine pe_imp (pe_and ha hb) fun σ H Q ⟨ρ, F, Fr, ts, g, m⟩ => ⟨ρ, F, Fr, ts, g, (Post.bind0 m).mono fun x ρ1 F1 H1 s1 m1 v g1 => ?_⟩
  split at m1
  · exact ⟨true, g1.fzF, iteT ⟨ρ1, F1, Fr, ts, g1.tail, m1⟩⟩
  · exact ⟨false, g1.fzF, iteF (m1 F1 H1 (Sub.refl _) (.bl false) (g1.tail.addF (d := .bl false) rfl))⟩
  · exact False.elim m1
theorem de_or {rest : List Expr} (ha : DenE X Γ W a ca) (hb : DenE X Γ W (.BoolOp .Or (b :: rest) pos) cb) : DenE X Γ W (.BoolOp .Or (a :: b :: rest) pos) (eOr ca cb) := by
  refine pe_imp (pe_or ha hb) fun σ H Q ⟨ρ, F, Fr, ts, g, m⟩ => ⟨ρ, F, Fr, ts, g, (Post.bind0 m).mono fun x ρ1 F1 H1 s1 m1 v g1 => ?_⟩
  split at m1
  · exact ⟨false, g1.fzF, iteF ⟨ρ1, F1, Fr, ts, g1.tail, m1⟩⟩
  · exact ⟨true, g1.fzF, iteT (m1 F1 H1 (Sub.refl _) (.bl true) (g1.tail.addF (d := .bl true) rfl))⟩
  · exact False.elim m1
theorem de_if (ht : DenT X Γ W c tc) (ha : DenE X Γ W a ca) (hb : DenE X Γ W b cb) : DenE X Γ W (.IfExp c a b pos) (eIf tc ca cb) := by
  refine pe_imp (pe_ifExp ht ha hb) fun σ H Q ⟨ρ, F, Fr, ts, g, m⟩ => ⟨ρ, F, Fr, ts, g, (Post.bind0 m).mono fun x ρ1 F1 H1 s1 m1 g1 => ?_⟩
  cases x with
  | true => exact iteT ⟨ρ1, F1, Fr, ts, g1, m1⟩
  | false => exact iteF ⟨ρ1, F1, Fr, ts, g1, m1⟩
end
end FA
namespace FA
open PySem L2
section
variable {X : Cx} {Γ : Wd} {W : WX} {e a b c : Expr} {pos p : Pos} {x : Str} {ca cb cc : Ex} {pa pb : Px} {ta tb tc : Tx} {F F' Fr H H' : Hp} {σ : St} {ρ ρ' : Env} {ts : Bag} {v : V} {o : O}
theorem de_callB {id : String} {f : Op1} (ho : Op1C X Γ (.builtin id) f) (hg : Gl X x) (hm : X.mg x = none) (hv : bootBuiltins x = some (.builtin id)) (ha : DenE X Γ W a ca) (hs : starEach [a] X.env = (false, eval a X.env) :: starEach [] X.env := by rfl)
    (hn : x ≠ "__name__" := by decide) (hdb : (x == ("__debug__" : Str)) = false := by decide) : DenE X Γ W (.Call (.Name x p) [a] [] pos) (e1 f ca) := by
  obtain ⟨r, hr, k⟩ := ho
  refine pe_imp (pe_callB hr hg hm hv (pa_cons ha pa_nil hs) hn hdb hs) fun σ H Q ⟨ρ, F, Fr, ts, g, m⟩ => ⟨ρ, F, Fr, ts, g, (Post.bind0 m).mono fun o1 ρ1 F1 H1 s1 m1 v1 g1 => ?_⟩
  obtain ⟨o, e, m3⟩ := m1.opt
  exact k g1.g e fun v F' H' s g' => m3 F' H' s v ⟨g1.ok, g'⟩
theorem de_callT {T : String} {f : Op1} (ho : Op1C X Γ (.type T) f) (hg : Gl X x) (hm : X.mg x = none) (hv : bootBuiltins x = some (.type T)) (ha : DenE X Γ W a ca) (hs : starEach [a] X.env = (false, eval a X.env) :: starEach [] X.env := by rfl)
    (hn : x ≠ "__name__" := by decide) (hdb : (x == ("__debug__" : Str)) = false := by decide) : DenE X Γ W (.Call (.Name x p) [a] [] pos) (e1 f ca) := by
  obtain ⟨r, hr, k⟩ := ho
  refine pe_imp (pe_callTy hr hg hm hv (pa_cons ha pa_nil hs) hn hdb hs) fun σ H Q ⟨ρ, F, Fr, ts, g, m⟩ => ⟨ρ, F, Fr, ts, g, (Post.bind0 m).mono fun o1 ρ1 F1 H1 s1 m1 v1 g1 => ?_⟩
  obtain ⟨o, e, m3⟩ := m1.opt
  exact k g1.g e fun v F' H' s g' => m3 F' H' s v ⟨g1.ok, g'⟩
theorem lenV_of (hK : X.K = Γ.K) {d : D} {n : Nat} (r : RepF Γ H d v) (h : lenD d = some n) : LenV X.K v H n := by
  cases d with
  | str s =>
    rw [show v = _ from r]
    simp only [lenD] at h
    split at h
    · rename_i hz
      cases h
      exact ⟨by rw [Str'_len, ← line_eq]; exact hz, (Str'_len s).symm⟩
    · cases h
  | lst ds =>
    obtain ⟨a, vs, rfl, e, q⟩ := r
    cases h
    exact .inl ⟨vs, .inl (.inl e), q.len.symm⟩
  | tup ds =>
    obtain ⟨a, vs, rfl, e, q⟩ := r
    cases h
    exact .inr ⟨vs, .inl (.inl e), q.len.symm⟩
  | scr ns =>
    obtain ⟨a, rfl, e⟩ := r
    cases h
    exact .inl ⟨_, by rw [hK]; exact e, by simp⟩
  | _ => simp [lenD] at h
theorem de_lenP (hK : X.K = Γ.K) (hg : Gl X "len") (hm : X.mg "len" = none) (ha : DenP X Γ a pa) (hs : starEach [a] X.env = (false, eval a X.env) :: starEach [] X.env := by rfl) : DenE X Γ W (.Call (.Name "len" p) [a] [] pos) (e1P opLen pa) := by
  refine pe_imp (pe_callB call_len hg hm boot_len (pa_cons ha pa_nil hs) (by decide) (by decide) hs) fun σ H Q ⟨ρ, F, Fr, ts, g, m⟩ => ?_
  unfold e1P at m
  split at m
  · rename_i y hy
    refine ⟨ρ, F, Fr, ts, y, g, hy, fun v F' H' fp s t g' r => ?_⟩
    obtain ⟨o, e, m2⟩ := m.opt
    obtain ⟨n, hn, rfl⟩ := Option.map_eq_some_iff.mp e
    exact ⟨_, n, rfl, lenV_of hK (r.view g'.sub) hn, m2 F' H' s (.int n) (g'.addF (d := .int n) rfl)⟩
  · exact False.elim m
theorem bools_rep : ∀ {ds : List D} {bs : List Bool} {vs : List V}, boolsOf ds = some bs → RepFs Γ H ds vs → vs = bs.map V.bl
  | [], _, _, e, r => by cases e; rw [show _ = _ from r]; rfl
  | d :: t, bs, _, e, ⟨v, vr, ev, p, q⟩ => by
    subst ev
    cases d with
    | bl b =>
      obtain ⟨bs', h, rfl⟩ := Option.map_eq_some_iff.mp (show (boolsOf t).map (b :: ·) = some bs from e)
      rw [bools_rep h q, show v = _ from p]; rfl
    | _ => simp [boolsOf] at e
theorem c_any (hc : X.calm = true) : Op1C X Γ (.builtin "any") opAny := by
  refine ⟨_, cr_any hc, fun {F Fr H L its v1 o1 o Q} g e k => ?_⟩
  have r := G.view g
  generalize o1.fr = d at *
  cases d with
  | lst ds =>
    obtain ⟨bs, hb, rfl⟩ := Option.map_eq_some_iff.mp (show (boolsOf ds).map (fun l => boolO (l.any id)) = some o from e)
    obtain ⟨a, vs, rfl, ea, q⟩ := r
    exact ⟨a, bs, rfl, by rw [← bools_rep hb q]; exact .inl (.inl ea), k _ F H (Sub.refl _) (G.addF (d := .bl _) (G.tail g) rfl)⟩
  | _ => simp [opAny] at e
theorem c_int : Op1C X Γ (.type "int") opInt := by
  refine ⟨_, call_int1, fun {F Fr H L its v1 o1 o Q} g e k => ?_⟩
  have r := G.view g
  generalize o1.fr = d at *
  cases d with
  | int i => cases e; exact .inl ⟨i, by rw [show v1 = _ from r], k _ F H (Sub.refl _) (G.addF (d := .int _) (G.tail g) rfl)⟩
  | bl b => cases e; exact .inr ⟨b, by rw [show v1 = _ from r], k _ F H (Sub.refl _) (G.addF (d := .int _) (G.tail g) rfl)⟩
  | _ => simp [opInt] at e
theorem c_abs : Op1C X Γ (.builtin "abs") opAbs := by
  refine ⟨_, call_abs, fun {F Fr H L its v1 o1 o Q} g e k => ?_⟩
  have r := G.view g
  generalize o1.fr = d at *
  cases d with
  | int i => cases e; exact ⟨i, by rw [show v1 = _ from r], k _ F H (Sub.refl _) (G.addF (d := .int _) (G.tail g) rfl)⟩
  | _ => simp [opAbs] at e
theorem c_tuple : Op1C X Γ (.type "tuple") opTuple := by
  refine ⟨_, call_tuple_of, fun {F Fr H L its v1 o1 o Q} g e k => ?_⟩
  obtain ⟨F1, s1, g1, r⟩ := G.freeze1 g
  generalize o1.fr = d at *
  cases d with
  | lst ds =>
    cases e
    obtain ⟨a, vs, rfl, ea, q⟩ := r
    refine ⟨a, vs, rfl, .inl ⟨.inl (.inl (g1.sub _ _ ea)), fun p hp => ?_⟩⟩
    obtain ⟨F2, s2, g2⟩ := G.mkT (p := p) g1 q hp
    exact k _ _ _ (s1.trans s2) g2
  | tup ds =>
    cases e
    obtain ⟨a, vs, rfl, ea, q⟩ := r
    exact ⟨a, vs, rfl, .inr ⟨.inl (.inl (g1.sub _ _ ea)), k _ F1 H s1 (g1.addF (d := .tup ds) ⟨a, vs, rfl, ea, q⟩)⟩⟩
  | _ => simp [opTuple] at e
theorem c_list : Op1C X Γ (.type "list") opListS := by
  refine ⟨_, call_list_of, fun {F Fr H L its v1 o1 o Q} g e k => ?_⟩
  obtain ⟨F1, s1, g1, r⟩ := G.freeze1 g
  generalize o1.fr = d at *
  cases d with
  | lst ds =>
    cases e
    obtain ⟨a, vs, rfl, ea, q⟩ := r
    exact ⟨a, vs, rfl, .inl (.inl (.inl (g1.sub _ _ ea))), fun p hp => k _ _ _ s1 (G.mkL g1 q hp)⟩
  | tup ds =>
    cases e
    obtain ⟨a, vs, rfl, ea, q⟩ := r
    exact ⟨a, vs, rfl, .inr (.inl (.inl (g1.sub _ _ ea))), fun p hp => k _ _ _ s1 (G.mkL g1 q hp)⟩
  | _ => simp [opListS] at e
def tyOfD : D → Option String
  | .non => some "NoneType"
  | .bl _ => some "bool"
  | .int _ => some "int"
  | .str _ => some "str"
  | .lst _ => some "list"
  | .tup _ => some "tuple"
  | _ => none
/-- isinstance(x, T), T a built-in one -/
def opIsTy (T : String) : Op1 := fun d => (tyOfD d).bind fun t => (kitB t T).map boolO
theorem tyX_of {K : PySem.W.Frag} {d : D} {t : String} (r : RepF Γ H d v) (h : tyOfD d = some t) : TyX K H v (.type t) := by
  cases d with
  | non => cases h; rw [show v = _ from r]; exact .base .non
  | bl b => cases h; rw [show v = _ from r]; exact .base (.bl b)
  | int i => cases h; rw [show v = _ from r]; exact .base (.int i)
  | str s => cases h; rw [show v = _ from r]; exact .base (.str _)
  | lst ds => cases h; obtain ⟨a, vs, rfl, e, _⟩ := r; exact .base (.lst e)
  | tup ds => cases h; obtain ⟨a, vs, rfl, e, _⟩ := r; exact .base (.tup e)
  | _ => simp [tyOfD] at h
theorem de_isTy {T : String} {pT : Pos} (hg : Gl X "isinstance") (hm : X.mg "isinstance" = none) (hv : bootBuiltins "isinstance" = some (.builtin "isinstance")) (hg2 : Gl X (Str.ofString T)) (hm2 : X.mg (Str.ofString T) = none) (hv2 : bootBuiltins (Str.ofString T) = some (.type T))
    (ha : DenE X Γ W a ca) (hs : starEach [a, .Name (Str.ofString T) pT] X.env = (false, eval a X.env) :: starEach [.Name (Str.ofString T) pT] X.env := by rfl) (hs2 : starEach [.Name (Str.ofString T) pT] X.env = (false, eval (.Name (Str.ofString T) pT) X.env) :: starEach [] X.env := by rfl)
    (hpl : (backTo pos (starEach [.Name (Str.ofString T) pT] X.env)).any (·.1) = false := by rfl) (hn : (Str.ofString T) ≠ "__name__" := by decide) (hdb : ((Str.ofString T) == ("__debug__" : Str)) = false := by decide) :
    DenE X Γ W (.Call (.Name "isinstance" p) [a, .Name (Str.ofString T) pT] [] pos) (e1 (opIsTy T) ca) := by
  refine pe_imp (pe_callB call_isi hg hm hv (pa_cons ha (pa_cons (pe_bltn (v := .ty T) hg2 hm2 hv2 rfl hn hdb) pa_nil hs2) hs) (by decide) (by decide) hs hpl) fun σ H Q ⟨ρ, F, Fr, ts, g, m⟩ => ⟨ρ, F, Fr, ts, g, (Post.bind0 m).mono fun o1 ρ1 F1 H1 s1 m1 v1 g1 => ?_⟩
  obtain ⟨o, e, m3⟩ := m1.opt
  obtain ⟨t, ht, e⟩ := Option.bind_eq_some_iff.mp e
  obtain ⟨bb, hb, rfl⟩ := Option.map_eq_some_iff.mp e
  exact ⟨v1, .ty T, .type t, .type T, bb, rfl, .ty T, tyX_of g1.view ht, kit_ty hb, m3 F1 H1 (Sub.refl _) (.bl bb) (g1.tail.addF (d := .bl bb) rfl)⟩
theorem strs_rep : ∀ {ds : List D} {l : List (List Nat)} {vs : List V}, strsOf ds = some l → RepFs Γ H ds vs → vs = (l.map Str').map V.str
  | [], _, _, e, r => by cases e; rw [show _ = _ from r]; rfl
  | d :: t, bs, _, e, ⟨v, vr, ev, p, q⟩ => by
    subst ev
    cases d with
    | str b =>
      obtain ⟨bs', h, rfl⟩ := Option.map_eq_some_iff.mp (show (strsOf t).map (b :: ·) = some bs from e)
      rw [strs_rep h q, show v = _ from p]; rfl
    | _ => simp [strsOf] at e
theorem joinL_eq (sep : List Nat) : ∀ l : List (List Nat), TL.joinL sep l = joinL sep l
  | [] => rfl
  | [_] => rfl
  | x :: y :: r => by
    show x ++ (sep ++ TL.joinL sep (y :: r)) = x ++ sep ++ joinL sep (y :: r)
    rw [joinL_eq sep (y :: r), List.append_assoc]
theorem join_eq (sep : List Nat) (l : List (List Nat)) : Txt.join (Str' sep) (l.map Str') = Str' (joinL sep l) := by
  rw [show Txt.join (Str' sep) (l.map Str') = Str.join (Str' sep) (l.map Str') from StrLaws.glued_eq_join _ _]
  apply TL.ext_tl
  rw [TL.tl_join]
  show TL.joinL sep ((l.map Str').map TL.tl) = joinL sep l
  rw [List.map_map]
  have : (TL.tl ∘ Str') = id := by funext x; rfl
  rw [this, List.map_id, joinL_eq]
theorem sizeL_eq (sep : List Nat) : ∀ l : List (List Nat), sizeL sep l = ((l.map Str').map (·.length)).sum + (l.map Str').length * (Str' sep).length
  | [] => by simp [sizeL]
  | x :: r => by
    simp only [sizeL, List.map_cons, List.sum_cons, List.length_cons]
    rw [sizeL_eq sep r, Str'_len, Str'_len]
    simp only [List.length_map, Nat.add_mul, Nat.one_mul]
    omega
/-- the receiver of a method -/
theorem isS_str {o : O} (g : GS Γ F Fr H σ ρ ((v, o) :: ts)) (h : isS o.fr = true) : ∃ s, o.fr = .str s ∧ v = .str (Str' s) := by
  have r := g.view
  generalize o.fr = d at *
  cases d with
  | str s => exact ⟨s, rfl, r⟩
  | _ => simp [isS] at h
theorem de_join {apos : Pos} (ha : DenE X Γ W a ca) (hb : DenE X Γ W b cb) (hs : starEach [b] X.env = [(false, eval b X.env)] := by rfl) (hbase : attributeBase a "join" X.env (eval a X.env) = eval a X.env := by rfl) (hline : (apos.endLine == pos.line) = true := by rfl) :
    DenE X Γ W (.Call (.Attribute a "join" apos) [b] [] pos) (eM isS opJoin ca cb) := by
  refine pe_imp (pe_join ha hb hs hbase hline) fun σ H Q ⟨ρ, F, Fr, ts, g, m⟩ => ⟨ρ, F, Fr, ts, g, (Post.bind0 m).mono fun o1 ρ1 F1 H1 s1 m1 v1 g1 => ?_⟩
  split at m1
  · rename_i hc
    obtain ⟨s, e1, rfl⟩ := isS_str g1 hc
    refine ⟨⟨_, rfl⟩, ρ1, F1, Fr, _, g1, (m1.bind [(V.str (Str' s), o1)]).mono fun o2 ρ2 F2 H2 s2 m2 v2 g2 => ?_⟩
    obtain ⟨o, e, m3⟩ := m2.opt
    have r2 := g2.view
    rw [e1] at e
    generalize o2.fr = d at *
    cases d with
    | lst ds =>
      obtain ⟨l, hl, e⟩ := Option.bind_eq_some_iff.mp (show ((strsOf ds).bind fun l => if sizeL s l ≤ line then some (O.fz (.str (joinL s l))) else none) = some o from e)
      split at e
      · rename_i hz
        cases e
        obtain ⟨p, vs, rfl, hp, q⟩ := r2
        refine ⟨_, p, l.map Str', rfl, rfl, .inl (.inl (.inl ?_)), ?_, m3 F2 H2 (Sub.refl _) _ (g2.tail.tail.addF (d := .str _) (congrArg V.str (join_eq s l)))⟩
        · rw [← strs_rep hl q]; exact hp
        · rw [← sizeL_eq]; exact hz
      · cases e
    | _ => simp [opJoin] at e
  · exact False.elim m1
theorem findD_some {x : D} : ∀ {ds : List D} {k : Nat}, findD ds x = some k → ∃ z, ds[k]? = some z ∧ eqv z x = true ∧ ∀ (i : Nat) z', i < k → ds[i]? = some z' → eqv z' x = false
  | [], _, e => by cases e
  | d :: r, k, e => by
    unfold findD at e
    split at e
    · rename_i h
      cases e
      exact ⟨d, rfl, h, fun i _ hi => by omega⟩
    · rename_i h
      obtain ⟨j, hj, rfl⟩ := Option.map_eq_some_iff.mp e
      obtain ⟨z, h1, h2, h3⟩ := findD_some hj
      refine ⟨z, by simpa using h1, h2, fun i z' hi hz => ?_⟩
      cases i with
      | zero => simp at hz; subst hz; simpa using h
      | succ i => exact h3 i z' (by omega) (by simpa using hz)
theorem de_index (hu : X.A.units + 65 < cLine) {apos : Pos} (ha : DenE X Γ W a ca) (hb : DenE X Γ W b cb) (hs : starEach [b] X.env = [(false, eval b X.env)] := by rfl) (hbase : attributeBase a "index" X.env (eval a X.env) = eval a X.env := by rfl) (hline : (apos.endLine == pos.line) = true := by rfl)
    (hfew : ((backTo pos (starEach [b] X.env)).all (fun x => !x.1) && (backToKw pos (keywordEach [] X.env)).all (fun x => x.1.isSome)
      && decide ([b].length + ([] : List Keyword).length + (if ([] : List Keyword).isEmpty then 0 else 1) < 30)) = true := by rfl) (hs2 : starEach [b] X.env = (false, eval b X.env) :: starEach [] X.env := by rfl) (hplain : (backTo pos (starEach [] X.env)).any (·.1) = false := by rfl) :
    DenE X Γ W (.Call (.Attribute a "index" apos) [b] [] pos) (eM isSL opIndex ca cb) := by
  refine pe_imp (pe_alt (pe_m1 PySem.F.slot_str_index PySem.F.type_str_index mt_sindex ha hb hs hbase hline) (pe_bm PySem.F.plainAttrs_list PySem.F.slot_list_index PySem.F.type_list_index (mt_index.or (mt_indexD hu)) ha (pa_cons hb pa_nil hs2) hbase hfew hline hs2 hplain)) fun σ H Q ⟨ρ, F, Fr, ts, g, m⟩ => ?_
  by_cases hS : ∀ o1 ρ1, ca ρ = .ok o1 ρ1 → isS o1.fr = true
  · left
    refine ⟨ρ, F, Fr, ts, g, (Post.bind0 m).monoE fun o1 ρ1 F1 H1 e1 s1 m1 v1 g1 => ?_⟩
    have hc := hS _ _ e1
    rw [if_pos (by simp [isSL, hc])] at m1
    obtain ⟨s, e1, rfl⟩ := isS_str g1 hc
    refine ⟨⟨_, rfl⟩, ρ1, F1, Fr, _, g1, (m1.bind [(V.str (Str' s), o1)]).mono fun o2 ρ2 F2 H2 s2 m2 v2 g2 => ?_⟩
    obtain ⟨o, e, m3⟩ := m2.opt
    have r2 := g2.view
    rw [e1] at e
    generalize o2.fr = d at *
    cases d with
    | str t =>
      match t, e, r2 with
      | [c], e, r2 =>
        obtain ⟨k, hk, rfl⟩ := Option.map_eq_some_iff.mp e
        obtain ⟨rest, hr⟩ := index_sign hk
        exact ⟨_, _, k, rest, rfl, by rw [show v2 = _ from r2], hr, m3 F2 H2 (Sub.refl _) _ (g2.tail.tail.addF (d := .int _) rfl)⟩
      | [], e, _ => simp [opIndex] at e
      | _ :: _ :: _, e, _ => simp [opIndex] at e
    | _ => simp [opIndex] at e
  · right
    refine ⟨ρ, F, Fr, ts, g, (Post.bind0 m).monoE fun o1 ρ1 F1 H1 e1 s1 m1 v1 g1 => ?_⟩
    have hn : isS o1.fr ≠ true := fun z => hS fun o ρ' e => by rw [e1] at e; cases e; exact z
    split at m1
    · rename_i hc
      have r1 := g1.view
      cases hd1 : o1.fr with
      | lst ds =>
        rw [hd1] at r1
        obtain ⟨p, vs, rfl, hp, q⟩ := id r1
        refine ⟨.inl ⟨rfl, vs, .inl (.inl hp)⟩, ρ1, F1, Fr, _, g1, (m1.bind [(V.ref p, o1)]).mono fun o2 ρ2 F2 H2 s2 m2 v2 g2 => ?_⟩
        obtain ⟨o, e, m3⟩ := m2.opt
        have r2 := g2.view
        have r1 := GS.view g2.tail
        rw [hd1] at e r1
        obtain ⟨p', vs, hpp, hp, q⟩ := r1
        cases hpp
        have e' : (if eqsOk o2.fr ds then (findD ds o2.fr).map (fun (k : Nat) => intO (k : Int)) else none) = some o := by
          generalize o2.fr = d at *
          cases d <;> exact e
        split at e'
        · rename_i hok
          obtain ⟨k, hk, rfl⟩ := Option.map_eq_some_iff.mp e'
          obtain ⟨z, hz, hzx, hbef⟩ := findD_some hk
          have fin : Q (.int (k : Int)) H2 := m3 F2 H2 (Sub.refl _) _ (g2.tail.tail.addF (d := .int _) rfl)
          rcases Bool.or_eq_true_iff.mp (show ((flatD o2.fr && ds.all flatD) || (plain o2.fr && plains ds)) = true from hok) with h | h
          · obtain ⟨h1, h2⟩ := Bool.and_eq_true_iff.mp h
            obtain ⟨ea, fa⟩ := flat_v h1 r2
            obtain ⟨es, fs⟩ := flats_v h2 q
            have all : ∀ (i : Nat) z, ds[i]? = some z → flatD z = true := fun i z hz => List.all_eq_true.mp h2 z (List.mem_of_getElem? hz)
            refine .inl ⟨p, vs, v2, k, vD z, rfl, rfl, .inl (.inl hp), fa, fs, ?_, ?_, fun i z' hi hz' => ?_, fin⟩
            · rw [es, List.getElem?_map, hz]; rfl
            · rw [ea, eqV_v (all _ _ hz) h1]; exact hzx
            · rw [es, List.getElem?_map] at hz'
              obtain ⟨y, hy, rfl⟩ := Option.map_eq_some_iff.mp hz'
              rw [ea, eqV_v (all _ _ hy) h1]; exact hbef i y hi hy
          · obtain ⟨h1, h2⟩ := Bool.and_eq_true_iff.mp h
            have all : ∀ (i : Nat) z, ds[i]? = some z → plain z = true := fun i z hz => List.all_eq_true.mp h2 z (List.mem_of_getElem? hz)
            refine .inr ⟨p, v2, pyD o2.fr, ds.map pyD, k, pyD z, rfl, rfl, dpl_of h2 hp q, dp_of 60 h1 r2, shaped60l h2, shaped60 h1, ?_, ?_, fun i z' hi hz' => ?_, fin⟩
            · rw [List.getElem?_map, hz]; rfl
            · rw [eqv_py 60 (all _ _ hz) h1]; exact hzx
            · rw [List.getElem?_map] at hz'
              obtain ⟨y, hy, rfl⟩ := Option.map_eq_some_iff.mp hz'
              rw [eqv_py 60 (all _ _ hy) h1]; exact hbef i y hi hy
        · cases e'
      | str s => rw [hd1] at hn; exact absurd rfl hn
      | _ => rw [hd1] at hc; simp [isSL, isS, isL] at hc
    · exact False.elim m1
theorem sIx_lo (n : Nat) (i : Int) : HT.sIx n 0 (some i) = clampI n i := by
  have h := HT.clip_eq i n 0
  unfold clampI
  have : ((HT.sIx n 0 (some i) : Nat) : Int) = (if i < 0 then max (i + (n : Int)) 0 else min i (n : Int)) := h.symm
  by_cases hi : 0 ≤ i
  · rw [if_pos hi]
    rw [if_neg (by omega)] at this
    omega
  · rw [if_neg hi]
    rw [if_pos (by omega)] at this
    omega
theorem sIx_hi (n : Nat) (i : Int) : HT.sIx n n (some i) = clampI n i := by
  have h := HT.clip_eq i n n
  unfold clampI
  have : ((HT.sIx n n (some i) : Nat) : Int) = (if i < 0 then max (i + (n : Int)) 0 else min i (n : Int)) := h.symm
  by_cases hi : 0 ≤ i
  · rw [if_pos hi]
    rw [if_neg (by omega)] at this
    omega
  · rw [if_neg hi]
    rw [if_pos (by omega)] at this
    omega
theorem cut_eq {α : Type} (l : List α) (lo hi : Option Int) : (l.drop (HT.sIx l.length 0 lo)).take (HT.sIx l.length l.length hi - HT.sIx l.length 0 lo) = sliceL l lo hi := by
  unfold sliceL
  have h1 : HT.sIx l.length 0 lo = (match lo with | none => 0 | some i => clampI l.length i) := by
    cases lo with
    | none => exact HT.sIx_none _ _
    | some i => exact sIx_lo _ i
  have h2 : HT.sIx l.length l.length hi = (match hi with | none => l.length | some i => clampI l.length i) := by
    cases hi with
    | none => exact HT.sIx_none _ _
    | some i => exact sIx_hi _ i
  rw [h1, h2, List.drop_take]
  try rfl
abbrev DenO (X : Cx) (Γ : Wd) (W : WX) (e : Option Expr) (c : Option Ex) : Prop := PO X e (fun σ H Q => ∃ ρ F Fr ts, GS Γ F Fr H σ ρ ts ∧ Post Γ W σ F Fr ts (fun i ρ' F' H' => GS Γ F' Fr H' σ ρ' ts → Q i H') (eOpt c ρ))
theorem do_none : DenO X Γ W none none := by
  have h := po_none (X := X)
  exact ⟨fun pins s σ H Q I ⟨ρ, F, Fr, ts, g, m⟩ => h.run pins s σ H Q I (m F H (Sub.refl _) g)⟩
theorem do_some (ha : DenE X Γ W a ca) : DenO X Γ W (some a) (some ca) := by
  have h := po_some ha
  refine ⟨fun pins s σ H Q I ⟨ρ, F, Fr, ts, g, m⟩ => h.run pins s σ H Q I ⟨ρ, F, Fr, ts, g, (Post.bind0 m).mono fun o1 ρ1 F1 H1 s1 m1 v1 g1 => ?_⟩⟩
  split at m1
  · exact ⟨_, g1.fzF, m1 F1 H1 (Sub.refl _) g1.tail⟩
  · exact False.elim m1
theorem RepFs.slice {ds : List D} {vs : List V} {lo hi : Option Int} (r : RepFs Γ F ds vs) : RepFs Γ F (sliceL ds lo hi) (sliceL vs lo hi) := by
  unfold sliceL
  rw [r.len]
  exact (r.take _).dropN _
theorem de_slice {lo hi : Option Expr} {clo chi : Option Ex} {p2 : Pos} (ha : DenE X Γ W a ca) (hl : DenO X Γ W lo clo) (hh : DenO X Γ W hi chi) : DenE X Γ W (.Subscript a (.Slice lo hi none p2) pos) (eSl ca clo chi) := by
  refine pe_imp (pe_slice (sl_list.or (sl_tupA.or sl_str)) ha hl hh) fun σ H Q ⟨ρ, F, Fr, ts, g, m⟩ => ⟨ρ, F, Fr, ts, g, (Post.bind0 m).mono fun o1 ρ1 F1 H1 s1 m1 v1 g1 => ?_⟩
  refine ⟨ρ1, F1, Fr, _, g1, (Post.bind [(v1, o1)] m1).mono fun i ρ2 F2 H2 s2 m2 g2 => ?_⟩
  refine ⟨ρ2, F2, Fr, _, g2, (Post.bind [(v1, o1)] m2).mono fun j ρ3 F3 H3 s3 m3 g3 => ?_⟩
  obtain ⟨o, e, m4⟩ := m3.opt
  have r0 := g3.view
  obtain ⟨F4, s4, g4, r⟩ := G.freeze1 g3.g
  generalize o1.fr = d at *
  cases d with
  | lst ds =>
    cases e
    obtain ⟨p, vs, rfl, hp, q⟩ := r
    refine .inl ⟨p, vs, rfl, .inl (.inl (g4.sub _ _ hp)), fun p' hp' => m4 F4 _ s4 _ ⟨g3.ok, ?_⟩⟩
    have := G.mkL (p := p') g4 (q.slice (lo := i) (hi := j)) hp'
    unfold cutV
    rw [cut_eq]
    exact this
  | tup ds =>
    cases e
    obtain ⟨p, vs, rfl, hp, q⟩ := r
    refine .inr (.inl ⟨p, vs, rfl, .inl (.inl (g4.sub _ _ hp)), fun hw => ?_, fun hw p' hp' => ?_⟩)
    · have e1 : sliceL vs i j = vs := by
        rw [← cut_eq, hw.1, hw.2]
        simp
      have e2 : sliceL ds i j = ds := by
        have := hw
        rw [q.len] at this
        rw [← cut_eq, this.1, this.2]
        simp
      rw [e2] at m4
      exact m4 F4 H3 s4 _ ⟨g3.ok, g4.addF (d := .tup ds) ⟨p, vs, rfl, hp, q⟩⟩
    · obtain ⟨F5, s5, g5⟩ := G.mkT (p := p') g4 (q.slice (lo := i) (hi := j)) hp'
      unfold cutV
      rw [cut_eq]
      exact m4 F5 _ (s4.trans s5) _ ⟨g3.ok, g5⟩
  | str s =>
    simp only [sliceD] at e
    split at e
    · rename_i hz
      cases e
      refine .inr (.inr ⟨_, r0, by rw [Str'_len, ← line_eq]; exact hz, m4 F4 H3 s4 _ ⟨g3.ok, g4.addF (d := .str _) ?_⟩⟩)
      show V.str (cutS (Str' s) i j) = V.str (Str' (sliceL s i j))
      unfold cutS
      rw [Str'_len]
      exact congrArg (fun l : List Nat => V.str ⟨l.toArray⟩) (cut_eq s i j)
    · cases e
  | _ => simp [sliceD] at e
end
end FA
namespace FA
open PySem L2
section
variable {X : Cx} {Γ : Wd} {W : WX} {e a b c : Expr} {pos p : Pos} {x : Str} {ca cb cc : Ex} {pa pb : Px} {ta tb tc : Tx} {F F' Fr H H' : Hp} {σ : St} {ρ ρ' : Env} {ts : Bag} {v : V} {o : O}
theorem wk_list {K : PySem.W.Frag} {q : Addr} {vs : List V} {ds : List D} (h : F q = some (.lst vs)) (r : RepFs Γ F ds vs) : Wk Γ (Itl K q) F ds where
  go := fun i H s hi => by
    have hv : i < vs.length := by rw [r.len]; exact hi
    exact ⟨vs, vs[i], .inl (.inl (s _ _ h)), by simp [hv]⟩
  stop := fun i H s hi => ⟨vs, .inl (.inl (s _ _ h)), by rw [r.len]; exact hi⟩
  yld := fun i H x H' F1 Fr L its d s g hd y => by
    obtain ⟨rfl, y⟩ := y
    obtain ⟨u, hu, ru⟩ := r.get hd
    have := y vs (.inl (.inl (g.sub _ _ (s _ _ h))))
    rw [hu] at this
    cases this
    exact ⟨F1, Sub.refl _, g.addF (RepF.mono s ru)⟩
theorem wk_tup {K : PySem.W.Frag} {q : Addr} {vs : List V} {ds : List D} (h : F q = some (.tup vs)) (r : RepFs Γ F ds vs) : Wk Γ (Itt K q) F ds where
  go := fun i H s hi => by
    have hv : i < vs.length := by rw [r.len]; exact hi
    exact ⟨vs, vs[i], .inl (.inl (s _ _ h)), by simp [hv]⟩
  stop := fun i H s hi => ⟨vs, .inl (.inl (s _ _ h)), by rw [r.len]; exact hi⟩
  yld := fun i H x H' F1 Fr L its d s g hd y => by
    obtain ⟨rfl, y⟩ := y
    obtain ⟨u, hu, ru⟩ := r.get hd
    have := y vs (.inl (.inl (g.sub _ _ (s _ _ h))))
    rw [hu] at this
    cases this
    exact ⟨F1, Sub.refl _, g.addF (RepF.mono s ru)⟩
theorem wk_str {s : List Nat} : Wk Γ (Its (Str' s)) F (s.map fun c => .str [c]) where
  go := fun i H _ hi => by show i < (Str' s).cps.size; simpa [Str'] using hi
  stop := fun i H _ hi => by show (Str' s).cps.size ≤ i; simpa [Str'] using hi
  yld := fun i H x H' F1 Fr L its d _ g hd y => by
    obtain ⟨rfl, c, hc, rfl⟩ := y
    refine ⟨F1, Sub.refl _, g.addF ?_⟩
    rw [List.getElem?_map] at hd
    obtain ⟨c', hc', rfl⟩ := Option.map_eq_some_iff.mp hd
    have : c = c' := by
      have : s[i]? = some c := by simpa [Str'] using hc
      rw [this] at hc'; cases hc'; rfl
    subst this
    rfl
theorem di_e (hK : X.K = Γ.K) {tg : Expr} (h : DenE X Γ W a ca) : DenI X Γ W tg a (iE ca) := by
  refine pi_imp (pi_alt (pi_alt (pi_list h) (pi_tup h)) (pi_str h)) fun σ H R' ⟨ρ, F, Fr, ts, g, m⟩ => ?_
  -- which of the three: by what came
  cases e : ca ρ with
  | ok o1 ρ1 =>
    cases hd : o1.fr with
    | lst ds =>
      refine .inl (.inl ⟨ρ, F, Fr, ts, g, (Post.bind0 m).monoE fun o2 ρ2 F1 H1 e1 s1 m1 v1 g1 => ?_⟩)
      rw [e] at e1; cases e1
      obtain ⟨o, e2, m2⟩ := m1.opt
      rw [hd] at e2; cases e2
      obtain ⟨F2, s2, g2⟩ := g1.freeze
      have r := g2.fzF
      rw [hd] at r
      obtain ⟨q, vs, rfl, hq, rq⟩ := r
      exact ⟨q, rfl, ⟨vs, .inl (.inl (g2.sub _ _ hq))⟩, m2 F2 H1 s2 _ g2.tail (wk_list hq rq)⟩
    | tup ds =>
      refine .inl (.inr ⟨ρ, F, Fr, ts, g, (Post.bind0 m).monoE fun o2 ρ2 F1 H1 e1 s1 m1 v1 g1 => ?_⟩)
      rw [e] at e1; cases e1
      obtain ⟨o, e2, m2⟩ := m1.opt
      rw [hd] at e2; cases e2
      obtain ⟨F2, s2, g2⟩ := g1.freeze
      have r := g2.fzF
      rw [hd] at r
      obtain ⟨q, vs, rfl, hq, rq⟩ := r
      exact ⟨q, rfl, ⟨vs, .inl (.inl (g2.sub _ _ hq))⟩, m2 F2 H1 s2 _ g2.tail (wk_tup hq rq)⟩
    | str s =>
      refine .inr ⟨ρ, F, Fr, ts, g, (Post.bind0 m).monoE fun o2 ρ2 F1 H1 e1 s1 m1 v1 g1 => ?_⟩
      rw [e] at e1; cases e1
      obtain ⟨o, e2, m2⟩ := m1.opt
      rw [hd] at e2; cases e2
      have r := g1.view
      rw [hd] at r
      exact ⟨_, r, m2 F1 H1 (Sub.refl _) _ g1.tail wk_str⟩
    | _ =>
      have m' : Post Γ W σ F Fr ts (QI Γ σ Fr ts R') (ofOpt (itemsD o1.fr) ρ1) := by
        have := m
        unfold iE at this
        rw [e] at this
        exact this
      rw [hd] at m'
      exact False.elim m'
  | exc y ds ρ1 =>
    refine .inl (.inl ⟨ρ, F, Fr, ts, g, ?_⟩)
    have : Post Γ W σ F Fr ts (QI Γ σ Fr ts R') (iE ca ρ) := m
    unfold iE at this
    rw [e] at this ⊢
    exact this
  | st =>
    unfold iE at m
    rw [e] at m
    exact False.elim m
theorem range_get (lo st : Int) : ∀ (n i : Nat), (rangeL lo st n)[i]? = if i < n then some (.int (lo + st * i)) else none
  | 0, i => by simp [rangeL]
  | n + 1, 0 => by simp [rangeL]
  | n + 1, i + 1 => by
    simp only [rangeL, List.getElem?_cons_succ, Nat.add_lt_add_iff_right]
    rw [range_get (lo + st) st n i]
    split
    · congr 2
      push_cast
      rw [Int.mul_add]
      omega
    · rfl
theorem range_len (lo st : Int) : ∀ n : Nat, (rangeL lo st n).length = n
  | 0 => rfl
  | n + 1 => by simp [rangeL, range_len (lo + st) st n]
theorem wk_range {lo : Int} {n : Nat} : Wk Γ (Itr lo n) F (rangeL lo 1 n) where
  go := fun i H _ hi => by rw [range_len] at hi; exact hi
  stop := fun i H _ hi => by rw [range_len] at hi; exact hi
  yld := fun i H x H' F1 Fr L its d _ g hd y => by
    obtain ⟨rfl, rfl⟩ := y
    rw [range_get] at hd
    split at hd
    · cases hd
      exact ⟨F1, Sub.refl _, g.addF (by rw [Int.one_mul]; rfl)⟩
    · cases hd
theorem small62_iff {i : Int} (h : small62 i = true) : -(2 ^ 62) ≤ i ∧ i < 2 ^ 62 := by
  simp [small62] at h
  omega
theorem di_range1 {tg : Expr} (hg : Gl X "range") (hm : X.mg "range" = none) (ha : DenE X Γ W a ca) (hs : starEach [a] X.env = [(false, eval a X.env)] := by rfl) (hs2 : starEach [a] X.env = (false, eval a X.env) :: starEach [] X.env := by rfl) :
    DenI X Γ W tg (.Call (.Name "range" p) [a] [] pos) (iRange1 ca) := by
  refine pi_imp (pi_range1 hg hm (pa_cons ha pa_nil hs2) hs) fun σ H R' ⟨ρ, F, Fr, ts, g, m⟩ => ⟨ρ, F, Fr, ts, g, (Post.bind0 m).mono fun o1 ρ1 F1 H1 s1 m1 v1 g1 => ?_⟩
  split at m1
  · split at m1
    · rename_i j hj
      obtain ⟨a1, a2⟩ := small62_iff hj
      exact ⟨j, by rw [show v1 = _ from g1.fzF], a1, a2, m1 F1 H1 (Sub.refl _) _ g1.tail wk_range⟩
    · exact False.elim m1
  · exact False.elim m1
theorem di_range2 {tg : Expr} (hg : Gl X "range") (hm : X.mg "range" = none) (ha : DenE X Γ W a ca) (hb : DenE X Γ W b cb) (hs : starEach [a, b] X.env = [(false, eval a X.env), (false, eval b X.env)] := by rfl) (hs2 : starEach [b] X.env = [(false, eval b X.env)] := by rfl)
    (hs3 : starEach [a, b] X.env = (false, eval a X.env) :: starEach [b] X.env := by rfl) (hs4 : starEach [b] X.env = (false, eval b X.env) :: starEach [] X.env := by rfl) :
    DenI X Γ W tg (.Call (.Name "range" p) [a, b] [] pos) (iRange ca cb) := by
  refine pi_imp (pi_range2 hg hm (pa_cons ha (pa_cons hb pa_nil hs4) hs3) hs hs2) fun σ H R' ⟨ρ, F, Fr, ts, g, m⟩ => ⟨ρ, F, Fr, ts, g, (Post.bind0 m).mono fun o1 ρ1 F1 H1 s1 m1 v1 g1 => ?_⟩
  refine ⟨ρ1, F1, Fr, _, g1, (Post.bind [(v1, o1)] m1).mono fun o2 ρ2 F2 H2 s2 m2 v2 g2 => ?_⟩
  split at m2
  · split at m2
    · rename_i i j hij
      obtain ⟨h1, h2⟩ := Bool.and_eq_true_iff.mp hij
      obtain ⟨a1, a2⟩ := small62_iff h1
      obtain ⟨a3, a4⟩ := small62_iff h2
      exact ⟨i, j, by rw [show v2 = _ from g2.fzF, show v1 = _ from GS.fzF g2.tail], ⟨a1, a2, a3, a4⟩, m2 F2 H2 (Sub.refl _) _ g2.tail.tail wk_range⟩
    · exact False.elim m2
  · exact False.elim m2
mutual
def Tgt.names : Tgt → List Nat
  | .nm i => [i]
  | .tp ts => tnames ts
def tnames : List Tgt → List Nat
  | [] => []
  | t :: r => t.names ++ tnames r
end
def OnlyAt (ns : List Nat) (σ σ' : St) : Prop := σ'.length = σ.length ∧ ∀ i, i ∉ ns → σ'[i]? = σ[i]?
theorem OnlyAt.kept {ns kp : List Nat} {σ σ' : St} (h : OnlyAt ns σ σ') (d : ∀ i ∈ kp, i ∉ ns) : Kept kp σ σ' := fun i hi => h.2 i (d i hi)
theorem OnlyAt.trans {ns ms : List Nat} {σ σ' σ'' : St} (h : OnlyAt ns σ σ') (h' : OnlyAt ms σ' σ'') : OnlyAt (ns ++ ms) σ σ'' :=
  ⟨h'.1.trans h.1, fun i hi => (h'.2 i fun z => hi (List.mem_append_right _ z)).trans (h.2 i fun z => hi (List.mem_append_left _ z))⟩
def tDG (Γ : Wd) (t : Tgt) : TG := fun v σ H Q => ∃ ρ F Fr ts o ρ', GS Γ F Fr H σ ρ ((v, o) :: ts) ∧ asgn t o ρ = some ρ' ∧ ∀ σ', OnlyAt t.names σ σ' → GS Γ F Fr H σ' ρ' ts → Q σ' H
def tDGs (Γ : Wd) (tg : List Tgt) : TGs := fun vs σ H Q => ∃ ρ F Fr ts os ρ', vs.length = os.length ∧ tg.length = os.length ∧ GS Γ F Fr H σ ρ (vs.zip os ++ ts) ∧ asgns tg os ρ = some ρ' ∧ ∀ σ', OnlyAt (tnames tg) σ σ' → GS Γ F Fr H σ' ρ' ts → Q σ' H
abbrev DenG (X : Cx) (Γ : Wd) (e : Expr) (t : Tgt) : Prop := PG X e (tDG Γ t)
abbrev DenGs (X : Cx) (Γ : Wd) (es : List Expr) (t : List Tgt) : Prop := PGs X es (tDGs Γ t)
theorem pg_imp {t t' : TG} (h : PG X e t) (i : ∀ v σ H Q, t' v σ H Q → t v σ H Q) : PG X e t' := ⟨fun pins s σ H v u Q I r q => h.run pins s σ H v u Q I r (i v σ H Q q)⟩
theorem pgs_imp {es : List Expr} {t t' : TGs} (h : PGs X es t) (i : ∀ v σ H Q, t' v σ H Q → t v σ H Q) : PGs X es t' := ⟨fun pins s σ H v u Q I r q => h.run pins s σ H v u Q I r (i v σ H Q q)⟩
theorem dg_nm (i : Nat) (hN : X.N.Nodup) {x : Str} (hi : X.N[i]? = some x := by rfl) (hx : Loc X.env.scope x := by first | exact Or.inl rfl | exact Or.inr rfl) (hf : X.fn x = true ∨ X.env.scope.names.lookup x = some .local := by first | exact .inl rfl | exact .inr rfl | assumption) : DenG X Γ (.Name x pos) (.nm i) := by
  refine pg_imp (pg_name hN hi hx hf) fun v σ H Q ⟨ρ, F, Fr, ts, o, ρ', g, e, k⟩ => ?_
  unfold asgn at e
  split at e
  · rename_i hl
    cases e
    refine k _ ⟨by simp, fun j hj => ?_⟩ (g.store hl)
    have : j ≠ i := fun z => hj (by rw [z]; simp [Tgt.names])
    rw [List.getElem?_set_ne (Ne.symm this)]
  · cases e
theorem dgs_nil : DenGs X Γ [] [] := by
  refine pgs_imp pgs_nil fun vs σ H Q ⟨ρ, F, Fr, ts, os, ρ', l, l2, g, e, k⟩ => ?_
  have : os = [] := List.length_eq_zero_iff.mp l2.symm
  subst this
  have : vs = [] := List.length_eq_zero_iff.mp l
  subst this
  cases e
  exact ⟨rfl, k σ ⟨rfl, fun _ _ => rfl⟩ g⟩
theorem dgs_cons {es : List Expr} {t : Tgt} {tg : List Tgt} (h1 : DenG X Γ e t) (h2 : DenGs X Γ es tg) (hs : (assignEach (e :: es) X.env).map (·.2) = assign e X.env :: (assignEach es X.env).map (·.2) := by rfl) : DenGs X Γ (e :: es) (t :: tg) := by
  refine pgs_imp (pgs_cons h1 h2 hs) fun vs σ H Q ⟨ρ, F, Fr, ts, os, ρ', l, l2, g, e, k⟩ => ?_
  cases os with
  | nil => simp at l2
  | cons o os =>
    cases vs with
    | nil => simp at l
    | cons v vs =>
      obtain ⟨ρ1, e1, e2⟩ := Option.bind_eq_some_iff.mp (show (asgn t o ρ).bind (asgns tg os) = some ρ' from e)
      refine ⟨v, vs, rfl, ρ, F, Fr, _, o, ρ1, g, e1, fun σ1 h1 g1 => ?_⟩
      exact ⟨ρ1, F, Fr, ts, os, ρ', by simpa using l, by simpa using l2, g1, e2, fun σ2 h2 g2 => k σ2 (h1.trans h2) g2⟩
theorem dg_tp (hK : X.K = Γ.K) (hc : X.calm = true) {es : List Expr} {kk : Nat} {tg : List Tgt} (h : DenGs X Γ es tg) (hn : (assignEach es X.env).length = tg.length := by rfl) (hst : (assignEach es X.env).findIdx? (·.1) = none := by rfl) : DenG X Γ (.Tuple es kk pos) (.tp tg) := by
  refine pg_imp (pg_tup hc h hn hst) fun v σ H Q ⟨ρ, F, Fr, ts, o, ρ', g, e, k⟩ => ?_
  have gg := g.g
  cases o with
  | fz d =>
    cases d with
    | tup ds =>
      unfold asgn at e
      split at e
      · rename_i hl
        obtain ⟨q, vs, rfl, hq, rq⟩ := g.fzF
        refine ⟨q, vs, rfl, .inl (.inl (g.sub _ _ hq)), by rw [rq.len, hl], ρ, F, Fr, ts, ds.map .fz, ρ', by simp [rq.len], by simp [hl], ⟨g.ok, ?_⟩, e, k⟩
        rw [List.append_assoc]
        exact zipFz rq g.tail.g
      · cases e
    | _ => simp [asgn] at e
  | tup os =>
    unfold asgn at e
    split at e
    · rename_i hl
      obtain ⟨sb, fr, off, fp, nd, al, f1, f2, rfl, ⟨q, vs, rfl, hq, rq⟩, s⟩ := gg
      obtain ⟨l, r'⟩ := rq.toL
      refine ⟨q, vs, rfl, .inl (.inl (sb _ _ hq)), by rw [l, hl], ρ, F, Fr, ts, os, ρ', l, hl, ⟨g.ok, ?_⟩, e, k⟩
      rw [List.append_assoc]
      exact ⟨sb, fr, off, f1 ++ f2, nd, al, r'.append s⟩
    · cases e
  | _ => simp [asgn] at e
end
end FA
namespace FA
open PySem L2
section
variable {X : Cx} {Γ : Wd} {W : WX} {e a b c : Expr} {pos p : Pos} {x : Str} {ca cb cc : Ex} {pa pb : Px} {ta tb tc : Tx} {F F' Fr H H' : Hp} {σ σ' : St} {ρ ρ' ρ₀ : Env} {ts : Bag} {v : V} {o : O}
theorem live_any : ∀ {σ σ' : St} {ρ : Env}, SlotsOk σ ρ → σ'.length = σ.length → (∀ (i : Nat) (o : O), ρ[i]? = some (some o) → σ'[i]? = σ[i]?) → SlotsOk σ' ρ ∧ live σ' ρ = live σ ρ
  | [], [], [], _, _, _ => ⟨trivial, rfl⟩
  | [], _ :: _, _, _, l, _ => by simp at l
  | _ :: _, [], _, _, l, _ => by simp at l
  | [], [], _ :: _, h, _, _ => h.elim
  | _ :: _, _ :: _, [], h, _, _ => h.elim
  | a :: σ, b :: σ', o :: ρ, h, l, k => by
    obtain ⟨i1, i2⟩ := live_any (σ := σ) (σ' := σ') (ρ := ρ) h.2 (by simpa using l) fun i o' e => by simpa using k (i + 1) o' (by simpa using e)
    cases o with
    | none =>
      refine ⟨⟨fun x z => (nomatch z), i1⟩, ?_⟩
      have e1 : live (b :: σ') (none :: ρ) = live σ' ρ := by cases b <;> rfl
      have e2 : live (a :: σ) (none :: ρ) = live σ ρ := by cases a <;> rfl
      rw [e1, e2, i2]
    | some o' =>
      have e : b = a := by simpa using k 0 o' rfl
      subst e
      refine ⟨⟨h.1, i1⟩, ?_⟩
      cases b with
      | none => exact i2
      | some v => exact congrArg ((v, o') :: ·) i2
theorem GS.any (g : GS Γ F Fr H σ ρ ts) (l : σ'.length = σ.length) (k : ∀ (i : Nat) (o : O), ρ[i]? = some (some o) → σ'[i]? = σ[i]?) : GS Γ F Fr H σ' ρ ts := by
  obtain ⟨a, b⟩ := live_any g.ok l k
  exact ⟨a, by rw [b]; exact g.g⟩
theorem hide_len (vs : List Nat) : ∀ ρ : Env, (hide vs ρ).length = ρ.length := by
  induction vs with
  | nil => intro ρ; rfl
  | cons v r ih => intro ρ; show (hide r (ρ.set v none)).length = _; rw [ih]; simp
theorem hide_get (vs : List Nat) : ∀ (ρ : Env) (i : Nat), (hide vs ρ)[i]? = if i ∈ vs ∧ i < ρ.length then some none else ρ[i]? := by
  induction vs with
  | nil => intro ρ i; simp [hide]
  | cons v r ih =>
    intro ρ i
    show (hide r (ρ.set v none))[i]? = _
    rw [ih]
    by_cases h1 : i ∈ r ∧ i < ρ.length
    · rw [if_pos ⟨h1.1, by simpa using h1.2⟩, if_pos ⟨List.mem_cons_of_mem _ h1.1, h1.2⟩]
    · rw [if_neg (by simpa using h1)]
      by_cases hv : i = v
      · subst hv
        by_cases hl : i < ρ.length
        · rw [if_pos ⟨List.mem_cons_self .., hl⟩]; simp [hl]
        · rw [if_neg (by rintro ⟨_, h⟩; exact hl h)]; simp [hl]
      · rw [List.getElem?_set_ne (Ne.symm hv), if_neg]
        rintro ⟨h, hl⟩
        exact h1 ⟨(List.mem_cons.mp h).resolve_left hv, hl⟩
theorem GS.hid (vs : List Nat) : ∀ {ρ : Env}, GS Γ F Fr H σ ρ ts → GS Γ F Fr H σ (hide vs ρ) ts := by
  induction vs with
  | nil => intro ρ g; exact g
  | cons v r ih => intro ρ g; exact ih g.forget1
theorem wipe_get (vs : List Nat) : ∀ (σ : St) (i : Nat), i ∉ vs → (wipe σ vs)[i]? = σ[i]? := by
  induction vs with
  | nil => intro σ i _; rfl
  | cons v r ih =>
    intro σ i h
    show ((wipe σ r).set v none)[i]? = _
    rw [List.getElem?_set_ne (fun z => h (by rw [z]; exact List.mem_cons_self ..)), ih σ i fun z => h (List.mem_cons_of_mem _ z)]
/-- back to a turn's start: the own names' slots forgotten -/
theorem GS.wipes (vs : List Nat) (g : GS Γ F Fr H σ' ρ ts) (l : σ'.length = σ.length) (k : ∀ i, i ∉ vs → σ'[i]? = σ[i]?) : GS Γ F Fr H (wipe σ vs) (hide vs ρ) ts := by
  refine (g.hid vs).any (by rw [wipe_length, l]) fun i o h => ?_
  have hi : i ∉ vs := fun z => by
    rw [hide_get] at h
    by_cases hl : i < ρ.length
    · rw [if_pos ⟨z, hl⟩] at h; cases h
    · rw [if_neg (fun q => hl q.2), List.getElem?_eq_none_iff.mpr (by omega)] at h; cases h
  rw [wipe_get vs σ i hi, k i hi]
theorem live_fill : ∀ {σ : St} {ρ ρ' : Env} {fp : List Addr}, SlotsOk σ ρ → ρ'.length = ρ.length →
    (∀ i : Nat, ρ'[i]? = ρ[i]? ∨ (ρ[i]? = some none ∧ (ρ'[i]? = some none ∨ ∃ d v, ρ'[i]? = some (some (.fz d)) ∧ σ[i]? = some (some v) ∧ RepF Γ F d v))) → RepL Γ F H (live σ ρ) fp → SlotsOk σ ρ' ∧ RepL Γ F H (live σ ρ') fp
  | [], [], [], _, _, _, _, r => ⟨trivial, r⟩
  | _, [], _ :: _, _, _, l, _, _ => by simp at l
  | _, _ :: _, [], _, _, l, _, _ => by simp at l
  | [], _ :: _, _, _, h, _, _, _ => h.elim
  | _ :: _, [], _, _, h, _, _, _ => h.elim
  | a :: σ, o :: ρ, o' :: ρ', fp, h, l, k, r => by
    have k0 := k 0
    have kr : ∀ i : Nat, ρ'[i]? = ρ[i]? ∨ (ρ[i]? = some none ∧ (ρ'[i]? = some none ∨ ∃ d v, ρ'[i]? = some (some (.fz d)) ∧ σ[i]? = some (some v) ∧ RepF Γ F d v)) := fun i => by simpa using k (i + 1)
    simp only [List.getElem?_cons_zero, Option.some.injEq] at k0
    have same : ∀ {fp}, o' = o → RepL Γ F H (live (a :: σ) (o :: ρ)) fp → SlotsOk (a :: σ) (o' :: ρ') ∧ RepL Γ F H (live (a :: σ) (o' :: ρ')) fp := by
      intro fp e r
      subst e
      cases a with
      | none =>
        obtain ⟨i1, i2⟩ := live_fill h.2 (by simpa using l) kr (show RepL Γ F H (live σ ρ) fp by cases o' <;> exact r)
        exact ⟨⟨h.1, i1⟩, by cases o' <;> exact i2⟩
      | some v =>
        cases o' with
        | none =>
          obtain ⟨i1, i2⟩ := live_fill h.2 (by simpa using l) kr (show RepL Γ F H (live σ ρ) fp from r)
          exact ⟨⟨h.1, i1⟩, i2⟩
        | some o2 =>
          obtain ⟨f1, f2, ef, r1, r2⟩ := r
          obtain ⟨i1, i2⟩ := live_fill h.2 (by simpa using l) kr r2
          exact ⟨⟨h.1, i1⟩, f1, f2, ef, r1, i2⟩
    rcases k0 with e | ⟨e, e' | ⟨d, v, e', ev, rr⟩⟩
    · exact same e r
    · exact same (e'.trans e.symm) r
    · subst e e' ev
      obtain ⟨i1, i2⟩ := live_fill h.2 (by simpa using l) kr (show RepL Γ F H (live σ ρ) fp from r)
      exact ⟨⟨fun _ _ => ⟨v, rfl⟩, i1⟩, [], fp, rfl, ⟨rr, rfl⟩, i2⟩
theorem unhide_len (vs : List Nat) : ∀ ρ : Env, (unhide vs ρ₀ ρ).length = ρ.length := by
  induction vs with
  | nil => intro ρ; rfl
  | cons v r ih => intro ρ; show (unhide r ρ₀ (ρ.set v _)).length = _; rw [ih]; simp
theorem unhide_get (vs : List Nat) : ∀ (ρ : Env) (i : Nat), (unhide vs ρ₀ ρ)[i]? = if i ∈ vs ∧ i < ρ.length then some ((ρ₀[i]?).getD none) else ρ[i]? := by
  induction vs with
  | nil => intro ρ i; simp [unhide]
  | cons v r ih =>
    intro ρ i
    show (unhide r ρ₀ (ρ.set v (match ρ₀[v]? with | some o => o | none => none)))[i]? = _
    rw [ih]
    by_cases h1 : i ∈ r ∧ i < ρ.length
    · rw [if_pos ⟨h1.1, by simpa using h1.2⟩, if_pos ⟨List.mem_cons_of_mem _ h1.1, h1.2⟩]
    · rw [if_neg (by simpa using h1)]
      by_cases hv : i = v
      · subst hv
        by_cases hl : i < ρ.length
        · rw [if_pos ⟨List.mem_cons_self .., hl⟩, List.getElem?_set_self hl]
          cases ρ₀[i]? <;> rfl
        · rw [if_neg (by rintro ⟨_, h⟩; exact hl h)]; simp [hl]
      · rw [List.getElem?_set_ne (Ne.symm hv), if_neg]
        rintro ⟨h, hl⟩
        exact h1 ⟨(List.mem_cons.mp h).resolve_left hv, hl⟩
theorem GS.unhid (vs : List Nat) (g : GS Γ F Fr H (wipe σ vs) (hide vs ρ) ts) (saved : ∀ i ∈ vs, ∀ o, ρ₀[i]? = some (some o) → ∃ d v, o = .fz d ∧ σ[i]? = some (some v) ∧ RepF Γ F d v) : GS Γ F Fr H σ (unhide vs ρ₀ ρ) ts := by
  have g1 : GS Γ F Fr H σ (hide vs ρ) ts := g.any (by rw [wipe_length]) fun i o h => by
    have hi : i ∉ vs := fun z => by
      rw [hide_get] at h
      by_cases hl : i < ρ.length
      · rw [if_pos ⟨z, hl⟩] at h; cases h
      · rw [if_neg (fun q => hl q.2), List.getElem?_eq_none_iff.mpr (by omega)] at h; cases h
    rw [wipe_get vs σ i hi]
  obtain ⟨sb, fr, off, fp, nd, al, r⟩ := g1.g
  obtain ⟨f1, f2, rfl, r1, r2⟩ := r.split
  have := live_fill (Γ := Γ) (F := F) (H := H) (ρ' := unhide vs ρ₀ ρ) g1.ok (by rw [unhide_len, hide_len]) (fun i => ?_) r2
  · exact ⟨this.1, sb, fr, off, f1 ++ f2, nd, al, r1.append this.2⟩
  · rw [unhide_get, hide_get]
    by_cases h : i ∈ vs ∧ i < ρ.length
    · rw [if_pos h, if_pos h]
      right
      refine ⟨rfl, ?_⟩
      cases e : ρ₀[i]? with
      | none => left; rfl
      | some x =>
        cases x with
        | none => left; rfl
        | some o =>
          obtain ⟨d, v, rfl, hv, rv⟩ := saved i h.1 o e
          exact .inr ⟨d, v, rfl, hv, rv⟩
    · rw [if_neg h, if_neg h]
      left; rfl
theorem G.frUpd {D : Addr} {u u' : HO} {L : List Addr} {xs : Bag} (g : G Γ F (upd Fr D u) H L xs) : G Γ F (upd Fr D u') (upd H D u') L xs := by
  obtain ⟨sb, fr, off, fp, nd, al, s⟩ := g
  have nF : ∀ a w, F a = some w → a ≠ D := fun a w e z => by
    have := off a w e
    rw [z, upd_same] at this; cases this
  have nf : ∀ a ∈ fp ++ L, a ≠ D := fun a ha z => by
    have := (al a ha).2.1
    rw [z, upd_same] at this; cases this
  refine ⟨fun a w e => by rw [upd_ne (nF a w e)]; exact sb a w e, fun a w e => ?_, fun a w e => by rw [upd_ne (nF a w e)]; have := off a w e; rwa [upd_ne (nF a w e)] at this, fp, nd, fun a ha => ?_, s.frame (Sub.refl _) fun a ha => upd_ne (nf a (List.mem_append_left _ ha))⟩
  · by_cases h : a = D
    · subst h; rw [upd_same] at e ⊢; exact e
    · rw [upd_ne h] at e ⊢; exact fr a w (by rw [upd_ne h]; exact e)
  · obtain ⟨a1, a2, w, hw⟩ := al a ha
    exact ⟨a1, by rw [upd_ne (nf a ha)] at a2 ⊢; exact a2, w, by rw [upd_ne (nf a ha)]; exact hw⟩
theorem G.toFrL {D : Addr} {u : HO} {L : List Addr} {xs : Bag} (g : G Γ F Fr H (D :: L) xs) (h : H D = some u) : G Γ F (upd Fr D u) H L xs := by
  obtain ⟨sb, fr, off, fp, nd, al, s⟩ := g
  have p : (fp ++ D :: L).Perm (D :: (fp ++ L)) := List.perm_middle
  have nd' := List.nodup_cons.mp (p.nodup_iff.mp nd)
  have aD := al D (by simp)
  refine ⟨sb, fun a w e => ?_, fun a w e => ?_, fp, nd'.2, fun a ha => ?_, s⟩
  · by_cases z : a = D
    · subst z; rw [upd_same] at e; cases e; exact h
    · rw [upd_ne z] at e; exact fr a w e
  · have : a ≠ D := fun z => by rw [z, aD.1] at e; cases e
    rw [upd_ne this]; exact off a w e
  · have : a ≠ D := fun z => nd'.1 (z ▸ ha)
    obtain ⟨a1, a2, a3⟩ := al a (p.mem_iff.mpr (.tail _ ha))
    exact ⟨a1, by rw [upd_ne this]; exact a2, a3⟩
theorem G.ofFrL {D : Addr} {u : HO} {L : List Addr} {xs : Bag} (g : G Γ F (upd Fr D u) H L xs) (hD : Fr D = none) : G Γ F Fr H (D :: L) xs ∧ H D = some u := by
  obtain ⟨sb, fr, off, fp, nd, al, s⟩ := g
  have hu := fr D u upd_same
  have nf : D ∉ fp ++ L := fun ha => by
    have := (al D ha).2.1
    rw [upd_same] at this; cases this
  have nF : F D = none := by
    cases e : F D with
    | none => rfl
    | some w => have := off D w e; rw [upd_same] at this; cases this
  refine ⟨⟨sb, fun a w e => fr a w (by rw [upd_ne fun z => by rw [z, hD] at e; cases e]; exact e), fun a w e => ?_, fp, ?_, fun a ha => ?_, s⟩, hu⟩
  · have : a ≠ D := fun z => by rw [z, nF] at e; cases e
    have := off a w e
    rwa [upd_ne ‹a ≠ D›] at this
  · exact List.perm_middle.nodup_iff.mpr (List.nodup_cons.mpr ⟨nf, nd⟩)
  · rcases List.mem_cons.mp (List.perm_middle.mem_iff.mp ha) with rfl | ha
    · exact ⟨nF, hD, u, hu⟩
    · obtain ⟨a1, a2, a3⟩ := al a ha
      have : a ≠ D := fun z => nf (z ▸ ha)
      rw [upd_ne this] at a2
      exact ⟨a1, a2, a3⟩
theorem compG_ok {own : List Nat} {t : Tgt} {conds : Tx} {elt : Env → List O → R (List O)} : ∀ {xs : List D} {ρ : Env} {acc : List O} {y : String} {ds : List D} {ρ' : Env}, compG own t conds elt xs ρ acc ≠ .exc y ds ρ'
  | [], _, _, _, _, _, h => by cases h
  | x :: r, ρ, acc, y, ds, ρ', h => by
    unfold compG at h
    split at h
    · cases h
    · rename_i ρ1 _
      cases e : conds ρ1 with
      | ok b ρ2 =>
        rw [e] at h
        have h : (if b = true then (elt ρ2 acc).ne.bind fun acc ρ => compG own t conds elt r ρ acc else compG own t conds elt r ρ2 acc) = _ := h
        split at h
        · cases e2 : elt ρ2 acc with
          | ok a ρ3 => rw [e2] at h; exact compG_ok (xs := r) h
          | exc _ _ _ => rw [e2] at h; cases h
          | st => rw [e2] at h; cases h
        · exact compG_ok (xs := r) h
      | exc _ _ _ => rw [e] at h; cases h
      | st => rw [e] at h; cases h
abbrev W0 : WX := fun _ _ _ _ => False
abbrev DenTs (X : Cx) (Γ : Wd) (W : WX) (ifs : List Expr) (c : Tx) : Prop := PTs X ifs (tDT Γ W c)
theorem pts_imp {ifs : List Expr} {t t' : TT} (h : PTs X ifs t) (i : ∀ σ H Q, t' σ H Q → t σ H Q) : PTs X ifs t' := ⟨fun pins s σ H Q I q => h.run pins s σ H Q I (i σ H Q q)⟩
theorem dts_nil : DenTs X Γ W [] tT := pts_imp pts_nil fun σ H Q ⟨ρ, F, Fr, ts, g, m⟩ => m F H (Sub.refl _) g
theorem dts_one (h : DenT X Γ W a ta) : DenTs X Γ W [a] ta := pts_one h
theorem comp_core {vs : List Nat} {t : Tgt} {conds : Tx} {ce : Ex} (hnm : ∀ i ∈ t.names, i ∈ vs) {Q : VK} {F1 Fr H1 : Hp} {ts : Bag} {ρ0 : Env} {xs : List D} {J : It} (m1 : Post Γ W σ F1 Fr ts (QE Γ σ Fr ts Q) (if !ownFree vs ρ0 then .st else (compG vs t conds (push ce) xs ρ0 []).bind fun acc ρ => .ok (.lst acc) (unhide vs ρ0 ρ)))
    (g1 : GS Γ F1 Fr H1 σ ρ0 ts) (wk : Wk Γ J F1 xs) : tLc (fun _ _ R => R J H1) (tDG Γ t) (tDT Γ W0 conds) (tD Γ W0 ce) vs σ H Q := by
  intro D hD
  split at m1
  · exact False.elim m1
  rename_i hof
  have hof : ownFree vs ρ0 = true := by simpa using hof
  have saved : ∀ i ∈ vs, ∀ o, ρ0[i]? = some (some o) → ∃ d v, o = .fz d ∧ σ[i]? = some (some v) ∧ RepF Γ F1 d v := fun i hi o e => by
    have := List.all_eq_true.mp hof i hi
    rw [e] at this
    cases o with
    | fz d =>
      obtain ⟨v, hv, g'⟩ := g1.take e
      exact ⟨d, v, rfl, hv, g'.fzF⟩
    | _ => simp at this
  cases ec : compG vs t conds (push ce) xs ρ0 [] with
  | st => rw [ec] at m1; exact False.elim m1
  | exc y ds ρ1 => exact absurd ec compG_ok
  | ok accF ρF =>
    rw [ec] at m1
    have hFrD : Fr D = none := by
      cases e : Fr D with
      | none => rfl
      | some w => have := g1.g.fr D w e; rw [hD] at this; cases this
    refine ⟨fun i n H2 => n = xs.length - i ∧ i ≤ xs.length ∧ ∃ ρi acc accV F', Sub F1 F' ∧ accV.length = acc.length ∧ GS Γ F' (upd Fr D (.lst accV)) H2 (wipe σ vs) (hide vs ρi) (accV.zip acc ++ ts) ∧ compG vs t conds (push ce) (xs.drop i) ρi acc = .ok accF ρF,
      ⟨xs.length, rfl, Nat.zero_le _, ρ0, [], [], F1, Sub.refl _, rfl, ?_, ec⟩, ?_⟩
    · have g2 := (g1.wipes (σ := σ) vs rfl fun _ _ => rfl)
      exact ⟨g2.ok, (g2.g.new (u := .lst []) hD).toFrL upd_same⟩
    rintro i n H2 ⟨rfl, hi, ρi, acc, accV, F', sF, hl, g2, ec2⟩
    by_cases hlt : i < xs.length
    · right
      refine ⟨wk.go i H2 (sF.trans g2.sub) hlt, fun H3 => i + 1 ≤ xs.length ∧ ∃ ρi acc accV F', Sub F1 F' ∧ accV.length = acc.length ∧ GS Γ F' (upd Fr D (.lst accV)) H3 (wipe σ vs) (hide vs ρi) (accV.zip acc ++ ts) ∧ compG vs t conds (push ce) (xs.drop (i + 1)) ρi acc = .ok accF ρF,
        fun H3 q => ⟨xs.length - (i + 1), by omega, rfl, q.1, q.2⟩, fun x H3 hy => ?_⟩
      have hx : xs[i]? = some xs[i] := List.getElem?_eq_getElem hlt
      obtain ⟨F2, s2, g3⟩ := wk.yld i H2 x H3 F' _ [] _ xs[i] sF g2.g hx hy
      rw [List.drop_eq_getElem_cons hlt] at ec2
      unfold compG at ec2
      split at ec2
      · cases ec2
      rename_i ρa ha
      refine ⟨hide vs ρi, F2, _, accV.zip acc ++ ts, .fz xs[i], ρa, ⟨g2.ok, g3⟩, ha, fun σ2 hσ g4 => ?_⟩
      have hout : ∀ j, j ∉ vs → σ2[j]? = σ[j]? := fun j hj => (hσ.2 j fun z => hj (hnm j z)).trans (wipe_get vs σ j hj)
      have hσl : σ2.length = σ.length := by rw [hσ.1, wipe_length]
      refine ⟨?_, ρa, F2, _, _, g4, ?_⟩
      · apply List.ext_getElem?
        intro j
        by_cases hj : j ∈ vs
        · have hw : ∀ (τ : St), τ.length = σ.length → (wipe τ vs)[j]? = if j < σ.length then some none else none := by
            intro τ hτ
            have : ∀ (us : List Nat), j ∈ us → (wipe τ us)[j]? = if j < σ.length then some none else none := by
              intro us
              induction us with
              | nil => intro z; cases z
              | cons u r ih =>
                intro z
                show ((wipe τ r).set u none)[j]? = _
                by_cases hu : u = j
                · subst hu
                  by_cases hlj : u < σ.length
                  · rw [if_pos hlj, List.getElem?_set_self (by rw [wipe_length, hτ]; exact hlj)]
                  · rw [if_neg hlj, List.getElem?_eq_none_iff.mpr (by rw [List.length_set, wipe_length, hτ]; omega)]
                · rw [List.getElem?_set_ne hu]
                  exact ih ((List.mem_cons.mp z).resolve_left (Ne.symm hu))
            exact this vs hj
          rw [hw σ2 hσl, hw σ rfl]
        · rw [wipe_get vs σ2 j hj, wipe_get vs σ j hj, hout j hj]
      · cases e1 : conds ρa with
        | st => rw [e1] at ec2; cases ec2
        | exc _ _ _ => rw [e1] at ec2; cases ec2
        | ok b ρb =>
          rw [e1] at ec2
          have ec2 : (if b = true then (push ce ρb acc).ne.bind fun acc ρ => compG vs t conds (push ce) (xs.drop (i + 1)) ρ acc else compG vs t conds (push ce) (xs.drop (i + 1)) ρb acc) = .ok accF ρF := ec2
          intro F3 H4 s3 g5
          cases b with
          | false =>
            rw [if_neg Bool.false_ne_true] at ec2 ⊢
            exact ⟨hlt, ρb, acc, accV, F3, (sF.trans s2).trans s3, hl, g5.wipes vs hσl hout, ec2⟩
          | true =>
            rw [if_pos rfl] at ec2 ⊢
            cases e2 : ce ρb with
            | st => unfold push at ec2; rw [e2] at ec2; cases ec2
            | exc _ _ _ => unfold push at ec2; rw [e2] at ec2; cases ec2
            | ok o ρc =>
              have ec3 : ((if acc.length < line then R.ok (acc ++ [o]) ρc else .st) : R (List O)).ne.bind (fun acc ρ => compG vs t conds (push ce) (xs.drop (i + 1)) ρ acc) = .ok accF ρF := by
                unfold push at ec2; rw [e2] at ec2; exact ec2
              split at ec3
              · rename_i hlen
                refine ⟨ρb, F3, _, _, g5, ?_⟩
                rw [e2]
                intro F4 H5 s4 v g6
                refine ⟨accV, g6.g.fr D _ upd_same, by rw [hl, ← line_eq]; exact hlen, hlt, ρc, acc ++ [o], accV ++ [v], F4, ((sF.trans s2).trans s3).trans s4, by simp [hl], ?_, ec3⟩
                have g7 := g6.wipes (σ := σ) vs hσl hout
                refine ⟨g7.ok, (G.frUpd (u' := .lst (accV ++ [v])) g7.g).perm ?_⟩
                rw [List.zip_append hl]
                have : (((v, o) :: (accV.zip acc ++ ts)) : Bag).Perm (accV.zip acc ++ [(v, o)] ++ ts) := by
                  rw [List.append_assoc]
                  exact List.perm_middle.symm
                exact this.append_right _
              · cases ec3
    · left
      have e : i = xs.length := by omega
      subst e
      rw [List.drop_length] at ec2
      cases ec2
      refine ⟨wk.stop _ H2 (sF.trans g2.sub) (Nat.le_refl _), ?_⟩
      obtain ⟨g3, hDa⟩ := G.ofFrL (by have := g2.g; rw [List.append_assoc] at this; exact this) hFrD
      have g4 : G Γ F' Fr H2 [] ((.ref D, .lst accF) :: (ts ++ live (wipe σ vs) (hide vs ρF))) := G.closeL g3 hDa hl
      have g5 : GS Γ F' Fr H2 (wipe σ vs) (hide vs ρF) ((.ref D, .lst accF) :: ts) := ⟨g2.ok, g4⟩
      exact m1 F' H2 sF (.ref D) (g5.unhid vs fun j hj o e => by
        obtain ⟨d, v, a1, a2, a3⟩ := saved j hj o e
        exact ⟨d, v, a1, a2, RepF.mono sF a3⟩)
theorem comp_imp {vs : List Nat} {it : Itx} {t : Tgt} {conds : Tx} {ce : Ex} (hnm : ∀ i ∈ t.names, i ∈ vs) {Q : VK} : tD Γ W (eComp vs t it conds ce) σ H Q → tLc (tDI Γ W it) (tDG Γ t) (tDT Γ W0 conds) (tD Γ W0 ce) vs σ H Q :=
  fun ⟨ρ, F, Fr, ts, g, m⟩ => ⟨ρ, F, Fr, ts, g, (Post.bind0 m).mono fun xs ρ0 F1 H1 s1 m1 J g1 wk => comp_core (H := H) hnm m1 g1 wk⟩
theorem de_comp (hc : X.calm = true) (hN : X.N.Nodup) {elt tg iter : Expr} {ifs : List Expr} {scope : Scope} {own : List (Str × Nat)} {it : Itx} {t : Tgt} {conds : Tx} {ce : Ex} (hi : DenI X Γ W tg iter it) (ok : BlkOk X.N X.env.scope scope own)
    (hg : ∀ (s : Shared) (H : Hp) (C : Addr) (cl : List (Str × Addr)) (fp : List Addr), DenG (X.blk s H scope (compEnvC scope cl C X.env) fp) Γ tg t) (ht : ∀ (s : Shared) (H : Hp) (C : Addr) (cl : List (Str × Addr)) (fp : List Addr), DenTs (X.blk s H scope (compEnvC scope cl C X.env) fp) Γ W0 ifs conds)
    (he : ∀ (s : Shared) (H : Hp) (C : Addr) (cl : List (Str × Addr)) (fp : List Addr), DenE (X.blk s H scope (compEnvC scope cl C X.env) fp) Γ W0 elt ce) (hnm : ∀ i ∈ t.names, i ∈ own.map (·.2) := by decide) (hs : ∀ x, foldedSetIterable iter X.env x = pure x := by intro _; rfl) :
    DenE X Γ W (.ListComp elt [⟨tg, iter, ifs, 0⟩] scope pos) (eComp (own.map (·.2)) t it conds ce) :=
  pe_imp (pe_lc hc hN hi ok hg ht he hs) fun _ _ _ => comp_imp hnm
end
end FA
namespace FA
open PySem L2
/-- the borrowed arguments and what became of them -/
def outM : List Bool → List V → Env → Bag
  | true :: m, v :: vs, some o :: outs => (v, o) :: outM m vs outs
  | false :: m, _ :: vs, outs => outM m vs outs
  | _, _, _ => []
/-- a def's promise: it does as f says -/
def spOf (Γ : Wd) (f : FSem) (mask : List Bool) : Sp := fun vs H Q E => ∃ os F Fr ts, vs.length = os.length ∧ mask.length = os.length ∧ G Γ F Fr H [] (vs.zip os ++ ts) ∧ match f os with
  | .ok o outs => ∀ v F' H', Sub F F' → G Γ F' Fr H' [] ((v, o) :: (outM mask vs outs ++ ts)) → Q v H'
  | .exc x ds outs => ∀ cls dx F' H', Sub F F' → G Γ F' Fr H' [] (outM mask vs outs ++ ts) → ExcAt Γ F' x ds cls dx → E cls dx H'
  | .st => False
section
variable {X : Cx} {Γ : Wd} {W : WX} {e a b c : Expr} {pos p : Pos} {x : Str} {ca cb cc : Ex} {pa pb : Px} {F F' Fr H H' : Hp} {σ σ' : St} {ρ ρ' : Env} {ts : Bag} {v : V} {o : O}
def ArOk (σ : St) : List Ar → List (Option O) → List V → Prop
  | [], [], [] => True
  | .io i :: r, none :: xs, v :: vs => σ[i]? = some (some v) ∧ ArOk σ r xs vs
  | .v _ :: r, some _ :: xs, _ :: vs => ArOk σ r xs vs
  | .mv _ :: r, some _ :: xs, _ :: vs => ArOk σ r xs vs
  | _, _, _ => False
def avals : List (Option O) → List V → Bag
  | none :: xs, _ :: vs => avals xs vs
  | some o :: xs, v :: vs => (v, o) :: avals xs vs
  | _, _ => []
def tDAr (Γ : Wd) (W : WX) (as : List Ar) : TA := fun σ H Q => ∃ ρ F Fr ts, GS Γ F Fr H σ ρ ts ∧ Post Γ W σ F Fr ts (fun xs ρ' F' H' => ∀ vs, ArOk σ as xs vs → GS Γ F' Fr H' σ ρ' (avals xs vs ++ ts) → Q vs H') (args as ρ)
abbrev DenAr (X : Cx) (Γ : Wd) (W : WX) (es : List Expr) (as : List Ar) : Prop := PA X es (tDAr Γ W as)
theorem dr_nil : DenAr X Γ W [] [] := pa_imp pa_nil fun σ H Q ⟨ρ, F, Fr, ts, g, m⟩ => m F H (Sub.refl _) [] trivial g
theorem dr_v {es : List Expr} {as : List Ar} (ha : DenE X Γ W e ca) (hr : DenAr X Γ W es as) (hs : starEach (e :: es) X.env = (false, eval e X.env) :: starEach es X.env := by rfl) : DenAr X Γ W (e :: es) (.v ca :: as) := by
  refine pa_imp (pa_cons ha hr hs) fun σ H Q ⟨ρ, F, Fr, ts, g, m⟩ => ⟨ρ, F, Fr, ts, g, (Post.bind0 m).mono fun o1 ρ1 F1 H1 s1 m1 v1 g1 => ?_⟩
  obtain ⟨F2, s2, g2⟩ := g1.freeze
  refine ⟨ρ1, F2, Fr, _, g2, ((Post.bind [(v1, .fz o1.fr)] m1).up s2).mono fun xs ρ2 F3 H3 s3 m2 vs hv g3 => ?_⟩
  exact m2 F3 H3 (Sub.refl _) (v1 :: vs) hv (g3.perm List.perm_middle)
theorem dr_io (i : Nat) {es : List Expr} {as : List Ar} (hr : DenAr X Γ W es as) (hN : X.N[i]? = some x := by rfl) (hv : Vis X.env.scope x := by first | exact Or.inl rfl | exact Or.inr (Or.inl rfl) | exact Or.inr (Or.inr rfl)) (hd : (x == ("__debug__" : Str)) = false := by decide)
    (hcd : (x == ("__classdict__" : Str)) = false := by decide) (hs : starEach (.Name x pos :: es) X.env = (false, eval (.Name x pos) X.env) :: starEach es X.env := by rfl) : DenAr X Γ W (.Name x pos :: es) (.io i :: as) := by
  refine pa_imp (pa_cons (pv i hN hv hd hcd) hr hs) fun σ H Q ⟨ρ, F, Fr, ts, g, m⟩ => ?_
  have m' : Post Γ W σ F Fr ts (fun xs ρ' F' H' => ∀ vs, ArOk σ (.io i :: as) xs vs → GS Γ F' Fr H' σ ρ' (avals xs vs ++ ts) → Q vs H') (match ρ[i]? with
    | some (some _) => (args as ρ).bind fun xs ρ => .ok (none :: xs) ρ
    | _ => .st) := m
  split at m'
  · rename_i o ho
    obtain ⟨v, hv⟩ := g.ok.get ho
    refine ⟨v, hv, ρ, F, Fr, ts, g, (Post.bind0 m').mono fun xs ρ2 F3 H3 s3 m2 vs hv' g3 => ?_⟩
    exact m2 F3 H3 (Sub.refl _) (v :: vs) ⟨hv, hv'⟩ g3
  · exact False.elim m'
theorem ios_hide {i : Nat} : ∀ {as : List Ar} {xs : List (Option O)} {ρ : Env} {y : Option O}, i ∉ ios as → fillA as xs (ρ.set i y) = fillA as xs ρ
  | [], _, _, _, _ => rfl
  | .io j :: r, xs, ρ, y, h => by
    have hj : j ≠ i := fun z => h (by rw [z]; exact List.mem_cons_self ..)
    cases xs with
    | nil => rfl
    | cons z xs =>
      unfold fillA
      rw [List.getElem?_set_ne (Ne.symm hj), ios_hide (as := r) fun q => h (List.mem_cons_of_mem _ q)]
  | .v _ :: r, xs, ρ, y, h => by
    cases xs with
    | nil => rfl
    | cons z xs => cases z with
      | none => rfl
      | some o => unfold fillA; rw [ios_hide (as := r) h]
  | .mv _ :: r, xs, ρ, y, h => by
    cases xs with
    | nil => rfl
    | cons z xs => cases z with
      | none => rfl
      | some o => unfold fillA; rw [ios_hide (as := r) h]
theorem fill_rep : ∀ {as : List Ar} {xs : List (Option O)} {vs : List V} {os : List O} {ρ : Env} {ts : Bag}, (ios as).Nodup → ArOk σ as xs vs → fillA as xs ρ = some os → GS Γ F Fr H σ ρ (avals xs vs ++ ts) → vs.length = os.length ∧ GS Γ F Fr H σ (hide (ios as) ρ) (vs.zip os ++ ts)
  | [], [], [], os, ρ, ts, _, _, e, g => by cases e; exact ⟨rfl, g⟩
  | [], [], _ :: _, _, _, _, _, h, _, _ => h.elim
  | [], _ :: _, _, _, _, _, _, h, _, _ => h.elim
  | .io i :: r, none :: xs, v :: vs, os, ρ, ts, nd, h, e, g => by
    have nd' := List.nodup_cons.mp nd
    unfold fillA at e
    split at e
    · rename_i o ho
      obtain ⟨os', e', rfl⟩ := Option.map_eq_some_iff.mp e
      have g1 : GS Γ F Fr H σ (ρ.set i none) ((v, o) :: (avals xs vs ++ ts)) := GS.takeAt g ho h.1
      have g2 : GS Γ F Fr H σ (ρ.set i none) (avals xs vs ++ ((v, o) :: ts)) := g1.perm List.perm_middle.symm
      obtain ⟨l, g3⟩ := fill_rep (ts := (v, o) :: ts) nd'.2 h.2 (by rw [ios_hide nd'.1]; exact e') g2
      exact ⟨by simp [l], g3.perm List.perm_middle⟩
    · cases e
  | .v _ :: r, some o :: xs, v :: vs, os, ρ, ts, nd, h, e, g => by
    obtain ⟨os', e', rfl⟩ := Option.map_eq_some_iff.mp (show (fillA r xs ρ).map (o :: ·) = some os from e)
    have g2 : GS Γ F Fr H σ ρ (avals xs vs ++ ((v, o) :: ts)) := GS.perm g List.perm_middle.symm
    obtain ⟨l, g3⟩ := fill_rep (as := r) (ts := (v, o) :: ts) nd h e' g2
    exact ⟨by simp [l], g3.perm List.perm_middle⟩
  | .mv _ :: r, some o :: xs, v :: vs, os, ρ, ts, nd, h, e, g => by
    obtain ⟨os', e', rfl⟩ := Option.map_eq_some_iff.mp (show (fillA r xs ρ).map (o :: ·) = some os from e)
    have g2 : GS Γ F Fr H σ ρ (avals xs vs ++ ((v, o) :: ts)) := GS.perm g List.perm_middle.symm
    obtain ⟨l, g3⟩ := fill_rep (as := r) (ts := (v, o) :: ts) nd h e' g2
    exact ⟨by simp [l], g3.perm List.perm_middle⟩
  | .io _ :: _, [], _, _, _, _, _, h, _, _ => by cases h
  | .io _ :: _, some _ :: _, _, _, _, _, _, h, _, _ => by cases h
  | .io _ :: _, none :: _, [], _, _, _, _, h, _, _ => by cases h
  | .v _ :: _, [], _, _, _, _, _, h, _, _ => by cases h
  | .v _ :: _, none :: _, _, _, _, _, _, h, _, _ => by cases h
  | .v _ :: _, some _ :: _, [], _, _, _, _, h, _, _ => by cases h
  | .mv _ :: _, [], _, _, _, _, _, h, _, _ => by cases h
  | .mv _ :: _, none :: _, _, _, _, _, _, h, _, _ => by cases h
  | .mv _ :: _, some _ :: _, [], _, _, _, _, h, _, _ => by cases h
def isIo : Ar → Bool
  | .io _ => true
  | _ => false
theorem back_rep : ∀ {as : List Ar} {xs : List (Option O)} {vs : List V} {outs : Env} {ρ ρ' : Env} {ts : Bag}, ArOk σ as xs vs → backA as outs ρ = some ρ' → GS Γ F Fr H σ ρ (outM (as.map isIo) vs outs ++ ts) → GS Γ F Fr H σ ρ' ts
  | [], [], [], outs, ρ, ρ', ts, _, e, g => by cases e; exact g
  | [], [], _ :: _, _, _, _, _, h, _, _ => h.elim
  | [], _ :: _, _, _, _, _, _, h, _, _ => h.elim
  | .io i :: r, none :: xs, v :: vs, outs, ρ, ρ', ts, h, e, g => by
    unfold backA at e
    split at e
    · rename_i o outs'
      split at e
      · rename_i hi
        have g1 : GS Γ F Fr H σ ρ ((v, o) :: (outM (r.map isIo) vs outs' ++ ts)) := g
        have g2 := g1.forget1 (i := i)
        exact back_rep h.2 e (g2.put hi h.1)
      · cases e
    · cases e
  | .v _ :: r, some o :: xs, v :: vs, outs, ρ, ρ', ts, h, e, g => back_rep (as := r) h e g
  | .mv _ :: r, some o :: xs, v :: vs, outs, ρ, ρ', ts, h, e, g => back_rep (as := r) h e g
  | .io _ :: _, [], _, _, _, _, _, h, _, _ => by cases h
  | .io _ :: _, some _ :: _, _, _, _, _, _, h, _, _ => by cases h
  | .io _ :: _, none :: _, [], _, _, _, _, h, _, _ => by cases h
  | .v _ :: _, [], _, _, _, _, _, h, _, _ => by cases h
  | .v _ :: _, none :: _, _, _, _, _, _, h, _, _ => by cases h
  | .v _ :: _, some _ :: _, [], _, _, _, _, h, _, _ => by cases h
  | .mv _ :: _, [], _, _, _, _, _, h, _, _ => by cases h
  | .mv _ :: _, none :: _, _, _, _, _, _, h, _, _ => by cases h
  | .mv _ :: _, some _ :: _, [], _, _, _, _, h, _, _ => by cases h
theorem ArOk.len : ∀ {as : List Ar} {xs : List (Option O)} {vs : List V}, ArOk σ as xs vs → vs.length = as.length
  | [], [], [], _ => rfl
  | .io _ :: r, none :: xs, v :: vs, h => by simp [ArOk.len h.2]
  | .v _ :: r, some _ :: xs, v :: vs, h => by simp [ArOk.len (as := r) h]
  | .mv _ :: r, some _ :: xs, v :: vs, h => by simp [ArOk.len (as := r) h]
  | [], [], _ :: _, h => h.elim
  | [], _ :: _, _, h => h.elim
  | .io _ :: _, [], _, h => by cases h
  | .io _ :: _, some _ :: _, _, h => by cases h
  | .io _ :: _, none :: _, [], h => by cases h
  | .v _ :: _, [], _, h => by cases h
  | .v _ :: _, none :: _, _, h => by cases h
  | .v _ :: _, some _ :: _, [], h => by cases h
  | .mv _ :: _, [], _, h => by cases h
  | .mv _ :: _, none :: _, _, h => by cases h
  | .mv _ :: _, some _ :: _, [], h => by cases h
/-- the step from the caller's state into the callee's promise and back -/
theorem call_ok {f : FSem} {as : List Ar} {xs : List (Option O)} {vs : List V} {Q : VK} (nd : (ios as).Nodup) (hv : ArOk σ as xs vs) (g : GS Γ F Fr H σ ρ (avals xs vs ++ ts))
    (m : Post Γ W σ F Fr ts (QE Γ σ Fr ts Q) (match fillA as xs ρ with
      | none => .st
      | some os => match f os with
        | .ok o outs => match backA as outs (hide (ios as) ρ) with
          | some ρ' => .ok o ρ'
          | none => .st
        | .exc x ds outs => match backA as outs (hide (ios as) ρ) with
          | some ρ' => .exc x ds ρ'
          | none => .st
        | .st => .st)) : spOf Γ f (as.map isIo) vs H Q (WE W σ) := by
  split at m
  · exact False.elim m
  · rename_i os ho
    obtain ⟨l, g1⟩ := fill_rep nd hv ho g
    refine ⟨os, F, Fr, ts ++ live σ (hide (ios as) ρ), l, by rw [List.length_map, ← hv.len, l], by have := g1.g; rwa [List.append_assoc] at this, ?_⟩
    split at m
    · rename_i o outs hf
      split at m
      · rename_i ρ' hb
        intro v F' H' s g2
        refine m F' H' s v ?_
        have g3 : GS Γ F' Fr H' σ (hide (ios as) ρ) (outM (as.map isIo) vs outs ++ ((v, o) :: ts)) := ⟨g1.ok, by
          refine g2.perm ?_
          have : ((v, o) :: (outM (as.map isIo) vs outs ++ (ts ++ live σ (hide (ios as) ρ))) : Bag).Perm (outM (as.map isIo) vs outs ++ ((v, o) :: (ts ++ live σ (hide (ios as) ρ)))) := List.perm_middle.symm
          rw [List.append_assoc]
          exact this⟩
        exact back_rep hv hb g3
      · exact False.elim m
    · rename_i y ds outs hf
      split at m
      · rename_i ρ' hb
        intro cls dx F' H' s g2 ex
        refine m cls dx F' H' s ?_ ex
        have g3 : GS Γ F' Fr H' σ (hide (ios as) ρ) (outM (as.map isIo) vs outs ++ ts) := ⟨g1.ok, by rw [List.append_assoc]; exact g2⟩
        exact back_rep hv hb g3
      · exact False.elim m
    · exact False.elim m
theorem de_call {k : Nat} {fa : Addr} {fd : FuncData} {ps : List Str} {f : FSem} {as : List Ar} {ar : Ar} {es : List Expr} {mask : List Bool} (Fn : FnOk X.prog X.w X.K X.mg X.base (L2.CX X.prog X.w) k fa fd ps (spOf Γ f mask)) (hr : Room k X.A) (tk : Takes X W) (hg : Gl X x) (hm : X.mg x = some (.ref fa)) (hk : PySem.W.keepIn X.K (.ref fa) = true) (hb : Binds X.K fd ps [])
    (ha : DenAr X Γ W (e :: es) (ar :: as)) (nd : (ios (ar :: as)).Nodup := by decide) (hmask : mask = (ar :: as).map isIo := by rfl) (hdb : (x == ("__debug__" : Str)) = false := by decide) (he : starEach (e :: es) X.env = (false, eval e X.env) :: starEach es X.env := by rfl) (hpl : (backTo pos (starEach es X.env)).any (·.1) = false := by rfl) :
    DenE X Γ W (.Call (.Name x p) (e :: es) [] pos) (eCall f (ar :: as)) := by
  refine pe_imp (pe_callS Fn hr hg hm hk hb (fun σ => passAt tk σ) ha hdb he hpl) fun σ H Q ⟨ρ, F, Fr, ts, g, m⟩ => ⟨ρ, F, Fr, ts, g, (Post.bind0 m).mono fun xs ρ1 F1 H1 s1 m1 vs hv g1 => ?_⟩
  subst hmask
  exact call_ok nd hv g1 m1
end
end FA
namespace FA
open PySem L2
section
variable {X : Cx} {Γ : Wd} {W : WX} {e a b c : Expr} {pos p : Pos} {x : Str} {ca cb cc : Ex} {pa pb : Px} {ta : Tx} {F F' Fr H H' : Hp} {σ σ' : St} {ρ ρ' : Env} {ts : Bag} {v : V} {o : O} {kp : List Nat} {D : Ends} {s t u : Stx} {st : Stmt} {rest body : List Stmt}
theorem Kept.refl : Kept kp σ σ := fun _ _ => rfl
theorem Kept.trans {σ'' : St} (h : Kept kp σ σ') (h' : Kept kp σ' σ'') : Kept kp σ σ'' := fun i hi => (h' i hi).trans (h i hi)
/-- later, from a state that keeps -/
theorem FlowP.shift {r : R Flow} (k : Kept kp σ σ') (s : Sub F F') (m : FlowP Γ W kp D σ F Fr ts r) : FlowP Γ W kp D σ' F' Fr ts r := by
  cases r with
  | ok f ρ' => cases f with
    | nx => exact fun σ2 F2 H2 k2 s2 g => m σ2 F2 H2 (k.trans k2) (s.trans s2) g
    | brk => exact fun σ2 F2 H2 k2 s2 g => m σ2 F2 H2 (k.trans k2) (s.trans s2) g
    | ret o => exact fun v σ2 F2 H2 k2 s2 g => m v σ2 F2 H2 (k.trans k2) (s.trans s2) g
  | exc x ds ρ' => exact fun cl dx σ2 F2 H2 k2 s2 g => m cl dx σ2 F2 H2 (k.trans k2) (s.trans s2) g
  | st => exact m
theorem FlowP.bind {α : Type} {r : R α} {k : α → Env → R Flow} (us : Bag) (m : FlowP Γ W kp D σ F Fr ts (r.bind k)) : Post Γ W σ F Fr (us ++ ts) (fun o ρ F' _ => FlowP Γ W kp D σ F' Fr ts (k o ρ)) r := by
  cases r with
  | ok o ρ' => exact fun F' H' s => FlowP.shift Kept.refl s m
  | exc x ds ρ' => exact fun c d F' H' s g => m c d σ F' H' Kept.refl s g.drop
  | st => exact m
theorem FlowP.bind0 {α : Type} {r : R α} {k : α → Env → R Flow} (m : FlowP Γ W kp D σ F Fr ts (r.bind k)) : Post Γ W σ F Fr ts (fun o ρ F' _ => FlowP Γ W kp D σ F' Fr ts (k o ρ)) r := FlowP.bind [] m
theorem FlowP.seq (m : FlowP Γ W kp D σ F Fr ts ((s ρ).bind fun f ρ => match f with | .nx => t ρ | f => .ok f ρ)) : FlowP Γ W kp { D with nx := tDS Γ W kp t D } σ F Fr ts (s ρ) := by
  cases e : s ρ with
  | ok f ρ' =>
    rw [e] at m
    cases f with
    | nx => exact fun σ2 F2 H2 k2 s2 g => ⟨ρ', F2, Fr, ts, g, FlowP.shift k2 s2 m⟩
    | brk => exact m
    | ret o => exact m
  | exc x ds ρ' => rw [e] at m; exact m
  | st => rw [e] at m; exact m
theorem dss_nil : DenSs X Γ W kp [] sNx := pss_imp pss_nil fun D σ H ⟨ρ, F, Fr, ts, g, m⟩ => m σ F H Kept.refl (Sub.refl _) g
theorem dss_one (h : DenS X Γ W kp st s) : DenSs X Γ W kp [st] s := pss_one h
theorem dss_cons (h : DenS X Γ W kp st s) (h2 : DenSs X Γ W kp rest t) : DenSs X Γ W kp (st :: rest) (sSeq s t) :=
  pss_imp (pss_cons h h2) fun D σ H ⟨ρ, F, Fr, ts, g, m⟩ => ⟨ρ, F, Fr, ts, g, FlowP.seq m⟩
theorem ds_ret (he : DenE X Γ W e ca) : DenS X Γ W kp (.Return (some e) pos) (sRet ca) :=
  ps_imp (ps_ret he) fun D σ H ⟨ρ, F, Fr, ts, g, m⟩ => ⟨ρ, F, Fr, ts, g, (FlowP.bind0 m).mono fun o1 ρ1 F1 H1 s1 m1 v1 g1 => m1 v1 σ F1 H1 Kept.refl (Sub.refl _) g1⟩
theorem ds_ex (he : DenE X Γ W e ca) (hs : swapsWith e none pos.line X.env = pure false := by rfl) : DenS X Γ W kp (.Expr e pos) (sEx ca) :=
  ps_imp (ps_expr he hs) fun D σ H ⟨ρ, F, Fr, ts, g, m⟩ => ⟨ρ, F, Fr, ts, g, (FlowP.bind0 m).mono fun o1 ρ1 F1 H1 s1 m1 v1 g1 => m1 σ F1 H1 Kept.refl (Sub.refl _) g1.tail⟩
theorem ds_if {A B : List Stmt} (hc : DenT X Γ W c ta) (ha : DenSs X Γ W kp A s) (hb : DenSs X Γ W kp B t) : DenS X Γ W kp (.If c A B pos) (sIf ta s t) :=
  ps_imp (ps_if hc ha hb) fun D σ H ⟨ρ, F, Fr, ts, g, m⟩ => ⟨ρ, F, Fr, ts, g, (FlowP.bind0 m).mono fun b ρ1 F1 H1 s1 m1 g1 => by
    cases b with
    | true => exact ⟨ρ1, F1, Fr, ts, g1, m1⟩
    | false => exact ⟨ρ1, F1, Fr, ts, g1, m1⟩⟩
theorem ds_set {tg : Expr} {t : Tgt} (he : DenE X Γ W e ca) (hg : DenG X Γ tg t) (hk : ∀ i ∈ kp, i ∉ t.names := by decide) (hs : swapsWithSole [tg] e pos.line X.env = pure false := by rfl) (hw : swappedStores [tg] e X.env = pure none := by rfl)
    (h1 : (assignEach [tg] X.env).map (·.2) = [assign tg X.env] := by rfl) : DenS X Γ W kp (.Assign [tg] e pos) (sSet t ca) :=
  ps_imp (ps_asg he hg hs hw h1) fun D σ H ⟨ρ, F, Fr, ts, g, m⟩ => ⟨ρ, F, Fr, ts, g, (FlowP.bind0 m).mono fun o1 ρ1 F1 H1 s1 m1 v1 g1 => by
    split at m1
    · rename_i ρ2 e2
      exact ⟨ρ1, F1, Fr, ts, o1, ρ2, g1, e2, fun σ2 oa g2 => m1 σ2 F1 H1 (oa.kept hk) (Sub.refl _) g2⟩
    · exact False.elim m1⟩
theorem for_core {D : Ends} {σ : L2.St} {F1 Fr H1 : Hp} {ts : Bag} {ρ0 : Env} {ds : List FA.D} {J : It} {t : Tgt} (m1 : FlowP Γ W kp D σ F1 Fr ts (forL t s ds ρ0)) (g1 : GS Γ F1 Fr H1 σ ρ0 ts) (wk : Wk Γ J F1 ds) (hk : ∀ i ∈ kp, i ∉ t.names) (H : Hp) : tFor (fun _ _ R => R J H1) (tDG Γ t) (tDS Γ W kp s) D σ H := by
  refine ⟨fun i n σ2 H2 => n = ds.length - i ∧ i ≤ ds.length ∧ Kept kp σ σ2 ∧ ∃ ρi F2, Sub F1 F2 ∧ GS Γ F2 Fr H2 σ2 ρi ts ∧ FlowP Γ W kp D σ2 F2 Fr ts (forL t s (ds.drop i) ρi), ⟨ds.length, rfl, Nat.zero_le _, Kept.refl, ρ0, F1, Sub.refl _, g1, m1⟩, ?_⟩
  rintro i n σ2 H2 ⟨rfl, hi, k2, ρi, F2, s2, g2, m2⟩
  by_cases hlt : i < ds.length
  · right
    refine ⟨wk.go i H2 (s2.trans g2.sub) hlt, fun σ3 H3 => i + 1 ≤ ds.length ∧ Kept kp σ σ3 ∧ ∃ ρi F3, Sub F1 F3 ∧ GS Γ F3 Fr H3 σ3 ρi ts ∧ FlowP Γ W kp D σ3 F3 Fr ts (forL t s (ds.drop (i + 1)) ρi),
      fun σ3 H3 q => ⟨ds.length - (i + 1), by omega, rfl, q⟩, fun x H3 hy => ?_⟩
    obtain ⟨F3, s3, g3⟩ := wk.yld i H2 x H3 F2 _ [] _ ds[i] s2 g2.g (List.getElem?_eq_getElem hlt) hy
    rw [List.drop_eq_getElem_cons hlt] at m2
    unfold forL at m2
    split at m2
    · exact False.elim m2
    rename_i ρ3 e3
    refine ⟨ρi, F3, Fr, ts, _, ρ3, ⟨g2.ok, g3⟩, e3, fun σ3 oa g4 => ⟨ρ3, F3, Fr, ts, g4, ?_⟩⟩
    have k3 := oa.kept hk
    cases eb : s ρ3 with
    | ok f ρ4 =>
      rw [eb] at m2
      cases f with
      | nx => exact fun σ5 F5 H5 k5 s5 g5 => ⟨hlt, (k2.trans k3).trans k5, ρ4, F5, s2.trans (s3.trans s5), g5, FlowP.shift (k3.trans k5) (s3.trans s5) m2⟩
      | brk => exact fun σ5 F5 H5 k5 s5 g5 => m2 σ5 F5 H5 (k3.trans k5) (s3.trans s5) g5
      | ret o => exact fun v σ5 F5 H5 k5 s5 g5 => m2 v σ5 F5 H5 (k3.trans k5) (s3.trans s5) g5
    | exc y es ρ4 =>
      rw [eb] at m2
      exact fun cl dx σ5 F5 H5 k5 s5 g5 => m2 cl dx σ5 F5 H5 (k3.trans k5) (s3.trans s5) g5
    | st => rw [eb] at m2; exact m2
  · left
    have : i = ds.length := by omega
    subst this
    rw [List.drop_length] at m2
    exact ⟨wk.stop _ H2 (s2.trans g2.sub) (Nat.le_refl _), m2 σ2 F2 H2 Kept.refl (Sub.refl _) g2⟩
theorem ds_for {tg : Expr} {t : Tgt} {it : Itx} {body : List Stmt} (hp : PassesOwn (model X.prog X.w) X.A X.env X.xe) (hc : X.calm = true) (hi : DenI X Γ W tg e it) (hg : DenG X Γ tg t) (hb : DenSs X Γ W kp body s) (hk : ∀ i ∈ kp, i ∉ t.names := by decide)
    (hs : ∀ x, foldedSetIterable e X.env x = pure x := by intro _; rfl) : DenS X Γ W kp (.For tg e body [] pos) (sFor t it s) := by
  exact ps_imp (ps_for hp hc hi hg hb hs) fun D σ H ⟨ρ, F, Fr, ts, g, m⟩ => ⟨ρ, F, Fr, ts, g, (FlowP.bind0 m).mono fun ds ρ0 F1 H1 s1 m1 J g1 wk => for_core m1 g1 wk hk H⟩
theorem ds_while {n : Nat} {body : List Stmt} (hp : PassesOwn (model X.prog X.w) X.A X.env X.xe) (hc : DenT X Γ W c ta) (hb : DenSs X Γ W kp body s) : DenS X Γ W kp (.While c body [] pos) (sWhile n ta s) := by
  refine ps_imp (ps_while hp hc hb) fun D σ H ⟨ρ, F, Fr, ts, g, m⟩ => ?_
  refine ⟨fun m σ2 H2 => Kept kp σ σ2 ∧ ∃ ρi F2, Sub F F2 ∧ GS Γ F2 Fr H2 σ2 ρi ts ∧ FlowP Γ W kp D σ2 F2 Fr ts (whileL ta s m ρi), ⟨n, Kept.refl, ρ, F, Sub.refl _, g, m⟩, ?_⟩
  rintro m σ2 H2 ⟨k2, ρi, F2, s2, g2, m2⟩
  cases m with
  | zero => exact False.elim m2
  | succ m =>
    refine ⟨ρi, F2, Fr, ts, g2, (FlowP.bind0 m2).mono fun b ρ3 F3 H3 s3 m3 g3 => ?_⟩
    cases b with
    | false => exact m3 σ2 F3 H3 Kept.refl (Sub.refl _) g3
    | true =>
      refine ⟨_, fun σ4 H4 q => ⟨m, Nat.lt_succ_self _, q⟩, ρ3, F3, Fr, ts, g3, ?_⟩
      have m4 : FlowP Γ W kp D σ2 F3 Fr ts ((s ρ3).bind fun f ρ => match f with
        | .nx => whileL ta s m ρ
        | .brk => .ok .nx ρ
        | .ret o => .ok (.ret o) ρ) := m3
      cases eb : s ρ3 with
      | ok f ρ4 =>
        rw [eb] at m4
        cases f with
        | nx => exact fun σ5 F5 H5 k5 s5 g5 => ⟨k2.trans k5, ρ4, F5, s2.trans (s3.trans s5), g5, FlowP.shift k5 s5 m4⟩
        | brk => exact m4
        | ret o => exact m4
      | exc y es ρ4 => rw [eb] at m4; exact m4
      | st => rw [eb] at m4; exact m4
theorem mod_root {f : O → Option O} {i : Nat} (h : modL (i, []) f ρ = some ρ') : ∃ o o', ρ[i]? = some (some o) ∧ f o = some o' ∧ ρ' = ρ.set i (some o') := by
  unfold modL at h
  split at h
  · rename_i o ho
    obtain ⟨s, hs, h⟩ := Option.bind_eq_some_iff.mp h
    cases hs
    obtain ⟨s', hs', h⟩ := Option.bind_eq_some_iff.mp h
    obtain ⟨o', ho', h⟩ := Option.map_eq_some_iff.mp h
    cases ho'
    exact ⟨o, _, ho, hs', h.symm⟩
  · cases h
theorem GS.putAt {i : Nat} (g : GS Γ F Fr H σ (ρ.set i none) ((v, o) :: ts)) {o1 : O} (hi : ρ[i]? = some (some o1)) (hv : σ[i]? = some (some v)) : GS Γ F Fr H σ (ρ.set i (some o)) ts :=
  g.put (by rcases Nat.lt_or_ge i ρ.length with z | z; exact z; rw [List.getElem?_eq_none_iff.mpr z] at hi; cases hi) hv
theorem unit_flow {r : R Unit} (m : FlowP Γ W kp D σ F Fr ts (unitS r)) : Post Γ W σ F Fr ts (fun _ ρ' F' H' => GS Γ F' Fr H' σ ρ' ts → D.nx σ H') r :=
  (FlowP.bind0 m).mono fun _ ρ1 F1 H1 s1 m1 g1 => m1 σ F1 H1 Kept.refl (Sub.refl _) g1
theorem slot_lst {i : Nat} {os : List O} (g : GS Γ F Fr H σ ρ ts) (hρ : ρ[i]? = some (some (.lst os))) (hv : σ[i]? = some (some v)) :
    ∃ q vs, v = .ref q ∧ H q = some (.lst vs) ∧ vs.length = os.length ∧ G Γ F Fr H [q] (vs.zip os ++ (ts ++ live σ (ρ.set i none))) := G.openL (g.takeAt hρ hv).g
theorem slot_back {i : Nat} {os : List O} {vs : List V} {q : Addr} {o1 : O} (ok : SlotsOk σ ρ) (g : G Γ F Fr H [q] (vs.zip os ++ (ts ++ live σ (ρ.set i none)))) (hq : H q = some (.lst vs)) (l : vs.length = os.length) (hi : ρ[i]? = some (some o1)) (hv : σ[i]? = some (some (.ref q))) : GS Γ F Fr H σ (ρ.set i (some (.lst os))) ts :=
  GS.putAt (v := .ref q) ⟨ok.hid i, G.closeL g hq l⟩ hi hv
theorem lstAt_root {i : Nat} (h : lstAt (lV i) ρ = true) : ∃ os, ρ[i]? = some (some (.lst os)) := by
  unfold lstAt lV atL at h
  simp only [Option.bind_some] at h
  split at h
  · rename_i os e
    split at e
    · rename_i o ho
      cases e
      exact ⟨os, ho⟩
    · cases e
  · cases h
theorem zip_app {α β : Type} : ∀ {a a' : List α} {b b' : List β}, a.length = b.length → (a ++ a').zip (b ++ b') = a.zip b ++ a'.zip b' := by
  intro a a' b b' h
  exact List.zip_append h
theorem ds_app (i : Nat) {apos cpos : Pos} (hK : X.K = Γ.K) (he : DenE X Γ W e ca) (hN : X.N[i]? = some x := by rfl) (hv : Vis X.env.scope x := by first | exact Or.inl rfl | exact Or.inr (Or.inl rfl) | exact Or.inr (Or.inr rfl)) (hd : (x == ("__debug__" : Str)) = false := by decide)
    (hcd : (x == ("__classdict__" : Str)) = false := by decide)
    (hbase : attributeBase (.Name x p) "append" X.env (eval (.Name x p) X.env) = eval (.Name x p) X.env := by rfl)
    (hfew : ((backTo cpos (starEach [e] X.env)).all (fun x => !x.1) && (backToKw cpos (keywordEach [] X.env)).all (fun x => x.1.isSome)
      && decide ([e].length + ([] : List Keyword).length + (if ([] : List Keyword).isEmpty then 0 else 1) < 30)) = true := by rfl)
    (hline : (apos.endLine == cpos.line) = true := by rfl) (hs : starEach [e] X.env = (false, eval e X.env) :: starEach [] X.env := by rfl) (hplain : (backTo cpos (starEach [] X.env)).any (·.1) = false := by rfl)
    (hsw : swapsWith (.Call (.Attribute (.Name x p) "append" apos) [e] [] cpos) none pos.line X.env = pure false := by rfl) :
    DenS X Γ W kp (.Expr (.Call (.Attribute (.Name x p) "append" apos) [e] [] cpos) pos) (sApp (lV i) ca) := by
  refine ps_imp (ps_expr (pe_bm PySem.F.plainAttrs_list PySem.F.slot_list_append PySem.F.type_list_append mt_append (pv i hN hv hd hcd) (pa_cons he pa_nil hs) hbase hfew hline hs hplain) hsw) fun D σ H ⟨ρ, F, Fr, ts, g, m⟩ => ?_
  unfold sApp at m
  split at m
  case isFalse => exact False.elim m
  rename_i hl
  obtain ⟨os, hos⟩ := lstAt_root hl
  obtain ⟨v, hv⟩ := g.ok.get hos
  obtain ⟨q, vs, rfl, hq, _, _⟩ := slot_lst g hos hv
  have m2 : Post Γ W σ F Fr ts (fun _ ρ' F' H' => GS Γ F' Fr H' σ ρ' ts → D.nx σ H') ((ca ρ).bind fun x ρ => match modL (i, []) (fun s => appO s x) ρ with | some ρ' => .ok () ρ' | none => .st) := unit_flow m
  refine ⟨.ref q, hv, .inl ⟨rfl, vs, .inl (.inl hq)⟩, ρ, F, Fr, ts, g, (Post.bind0 m2).mono fun o1 ρ1 F1 H1 s1 m1 v1 g1 => ?_⟩
  split at m1
  case h_2 => exact False.elim m1
  rename_i ρ2 e2
  obtain ⟨o, o', ho, e3, rfl⟩ := mod_root e2
  obtain ⟨os', rfl⟩ : ∃ os', o = .lst os' := by
    cases o with
    | lst os' => exact ⟨os', rfl⟩
    | _ => simp [appO] at e3
  have e3 : (if os'.length < line then some (O.lst (os' ++ [o1])) else none) = some o' := e3
  split at e3
  case isFalse => cases e3
  rename_i hz
  cases e3
  obtain ⟨q', vs', hqq, hq', l, g2⟩ := slot_lst g1 ho hv
  cases hqq
  refine ⟨q, vs', v1, rfl, rfl, hq', by rw [l]; exact hz, m1 F1 _ (Sub.refl _) ?_⟩
  have g3 : G Γ F1 Fr (upd H1 q (.lst (vs' ++ [v1]))) [q] ((vs' ++ [v1]).zip (os' ++ [o1]) ++ (ts ++ live σ (ρ1.set i none))) := by
    rw [zip_app l, List.append_assoc]
    exact G.write g2
  exact slot_back g1.ok g3 upd_same (by simp [l]) ho hv
theorem zip_set {α β : Type} : ∀ {a : List α} {b : List β} {n : Nat} {x : α} {y : β}, a.length = b.length → n < a.length → ∃ p, (a.zip b).Perm (p :: (a.zip b).eraseIdx n) ∧ ((a.set n x).zip (b.set n y)).Perm ((x, y) :: (a.zip b).eraseIdx n)
  | a :: as, b :: bs, 0, x, y, h, _ => ⟨(a, b), .refl _, .refl _⟩
  | a :: as, b :: bs, n + 1, x, y, h, hn => by
    obtain ⟨p, h1, h2⟩ := zip_set (a := as) (b := bs) (n := n) (x := x) (y := y) (by simpa using h) (by simpa using hn)
    exact ⟨p, (h1.cons _).trans (.swap _ _ _), (h2.cons _).trans (.swap _ _ _)⟩
  | [], _, _, _, _, _, hn => by simp at hn
  | _ :: _, [], _, _, _, h, _ => by simp at h
theorem ds_setI (i : Nat) {k : Expr} {ck : Ex} {tpos : Pos} (hK : X.K = Γ.K) (he : DenE X Γ W e ca) (hkk : DenE X Γ W k ck) (hN : X.N[i]? = some x := by rfl) (hv : Vis X.env.scope x := by first | exact Or.inl rfl | exact Or.inr (Or.inl rfl) | exact Or.inr (Or.inr rfl)) (hd : (x == ("__debug__" : Str)) = false := by decide)
    (hcd : (x == ("__classdict__" : Str)) = false := by decide)
    (ha : ∀ v, assign (.Subscript (.Name x p) k tpos) X.env v = (do
      let ov ← holding [v] (eval (.Name x p) X.env)
      let iv ← holding [v, ov] (eval k X.env)
      standAt tpos
      holding [v, ov, iv] (setItem ov iv v)
      release [v, ov, iv] []) := by intro _; rfl)
    (hs : swapsWithSole [.Subscript (.Name x p) k tpos] e pos.line X.env = pure false := by rfl) (hw : swappedStores [.Subscript (.Name x p) k tpos] e X.env = pure none := by rfl)
    (h1 : (assignEach [.Subscript (.Name x p) k tpos] X.env).map (·.2) = [assign (.Subscript (.Name x p) k tpos) X.env] := by rfl) :
    DenS X Γ W kp (.Assign [.Subscript (.Name x p) k tpos] e pos) (sSetI (lV i) ck ca) := by
  refine ps_imp (ps_asg he (pg_sub (pv i hN hv hd hcd) hkk set_list ha) hs hw h1) fun D σ H ⟨ρ, F, Fr, ts, g, m⟩ => ⟨ρ, F, Fr, ts, g, (FlowP.bind0 m).mono fun o1 ρ1 F1 H1 s1 m1 v1 g1 => ?_⟩
  split at m1
  case isFalse => exact False.elim m1
  rename_i hl
  obtain ⟨oo, hoo⟩ : ∃ o, ρ1[i]? = some (some o) := by
    unfold isAt lV atL at hl
    simp only [Option.bind_some] at hl
    split at hl
    · rename_i o ho
      exact ⟨o, ho⟩
    · cases hl
  obtain ⟨ov, hov⟩ := g1.ok.get hoo
  have m2 : Post Γ W σ F1 Fr ts (fun _ ρ' F' H' => GS Γ F' Fr H' σ ρ' ts → D.nx σ H') ((ck ρ1).bind fun k ρ => match modL (i, []) (fun s => setItemO k.fr o1 s) ρ with | some ρ' => .ok () ρ' | none => .st) := unit_flow m1
  refine ⟨ov, hov, ρ1, F1, Fr, _, g1, (Post.bind [(v1, o1)] m2).mono fun o2 ρ2 F2 H2 s2 m3 v2 g2 => ?_⟩
  split at m3
  case h_2 => exact False.elim m3
  rename_i ρ3 e2
  obtain ⟨o, o', ho, e3, rfl⟩ := mod_root e2
  cases o with
  | lst os =>
    obtain ⟨F3, s3, g2⟩ := g2.freeze
    have e3 : (match o2.fr with | .int i => (idx os.length i).map fun n => O.lst (os.set n o1) | _ => none) = some o' := e3
    split at e3
    case h_2 => cases e3
    rename_i j hj
    rw [hj] at g2
    obtain ⟨n, hn, rfl⟩ := Option.map_eq_some_iff.mp e3
    obtain ⟨q, vs, rfl, hq, l, g3⟩ := slot_lst g2.tail ho hov
    refine ⟨q, vs, j, n, rfl, g2.fzF, hq, by rw [l]; exact idx_ix hn, m3 F3 _ s3 ?_⟩
    have hlt : n < vs.length := (ixN_seq (by rw [l]; exact idx_ix hn)).2.1
    obtain ⟨pp, h1, h2⟩ := zip_set (x := v1) (y := o1) l hlt
    have g4 : G Γ F3 Fr (upd H2 q (.lst (vs.set n v1))) [q] ((vs.set n v1).zip (os.set n o1) ++ (ts ++ live σ (ρ2.set i none))) := by
      have g5 := G.write (u := .lst (vs.set n v1)) g3
      have g6 : G Γ F3 Fr (upd H2 q (.lst (vs.set n v1))) [q] (pp :: ((v1, o1) :: ((vs.zip os).eraseIdx n ++ (ts ++ live σ (ρ2.set i none))))) := g5.perm (by
        refine (h1.append_right _).trans ?_
        exact (List.perm_middle (l₁ := _)).cons pp)
      exact (G.tail (v := pp.1) (o := pp.2) g6).perm (h2.symm.append_right _)
    exact slot_back g2.ok g4 upd_same (by simp [l]) ho hov
  | _ => simp [setItemO] at e3
theorem fz_imp {c : Ex} {Q : VK} : tD Γ W (eFz c) σ H Q → tD Γ W c σ H Q := fun ⟨ρ, F, Fr, ts, g, m⟩ => ⟨ρ, F, Fr, ts, g, (Post.bind0 m).mono fun o1 ρ1 F1 H1 s1 m1 v1 g1 => by
  obtain ⟨F2, s2, g2⟩ := g1.freeze
  exact m1 F2 H1 s2 v1 g2⟩
theorem de_fz (he : DenE X Γ W e ca) : DenE X Γ W e (eFz ca) := pe_imp he fun _ _ _ => fz_imp
theorem ds_setLc (hc : X.calm = true) (hN : X.N.Nodup) {y : Str} {py spos : Pos} {i : Nat} {elt tg iter : Expr} {ifs : List Expr} {scope : Scope} {own : List (Str × Nat)} {it : Itx} {t : Tgt} {conds : Tx} {ce c2 : Ex}
    (hi : DenI X Γ W tg iter it) (ok : BlkOk X.N X.env.scope scope own)
    (hg : ∀ (s : Shared) (H : Hp) (C : Addr) (cl : List (Str × Addr)) (fp : List Addr), DenG (X.blk s H scope (compEnvC scope cl C X.env) fp) Γ tg t) (ht : ∀ (s : Shared) (H : Hp) (C : Addr) (cl : List (Str × Addr)) (fp : List Addr), DenTs (X.blk s H scope (compEnvC scope cl C X.env) fp) Γ W0 ifs conds)
    (he : ∀ (s : Shared) (H : Hp) (C : Addr) (cl : List (Str × Addr)) (fp : List Addr), DenE (X.blk s H scope (compEnvC scope cl C X.env) fp) Γ W0 elt ce)
    (hsw : swapsWith (.ListComp elt [⟨tg, iter, ifs, 0⟩] scope pos) (some (.Name y py)) spos.line X.env = pure true)
    (h2 : ∀ {σ : St} {H : Hp} {Q : VK}, tD Γ W c2 σ H Q → tD Γ W (eComp (own.map (·.2)) t it conds ce) σ H Q)
    (hy : X.N[i]? = some y := by rfl) (hyl : X.env.scope.names.lookup y = some .local := by rfl)
    (hnm : ∀ i ∈ t.names, i ∈ own.map (·.2) := by decide) (hk : ¬ i ∈ kp := by decide) (hs : ∀ x, foldedSetIterable iter X.env x = pure x := by intro _; rfl) :
    DenS X Γ W kp (.Assign [.Name y py] (.ListComp elt [⟨tg, iter, ifs, 0⟩] scope pos) spos) (sSet (.nm i) c2) :=
  ps_imp (ps_setLc hc hN hy hyl hsw hi ok hg ht he hs) fun D σ H ⟨ρ, F, Fr, ts, g, m⟩ => comp_imp hnm (h2 ⟨ρ, F, Fr, ts, g, (FlowP.bind0 m).mono fun o1 ρ1 F1 H1 s1 m1 v1 g1 => by
    split at m1
    case h_2 => exact False.elim m1
    rename_i ρ2 e2
    unfold asgn at e2
    split at e2
    case isFalse => cases e2
    rename_i hl
    cases e2
    refine m1 _ F1 H1 (fun j hj => ?_) (Sub.refl _) (g1.store hl)
    have : j ≠ i := fun z => hk (z ▸ hj)
    rw [List.getElem?_set_ne (Ne.symm this)]⟩)
end
end FA
namespace FA
open PySem PyProof.Rows L2
def ioOf : Nat → List Bool → List Nat
  | _, [] => []
  | j, true :: m => j :: ioOf (j + 1) m
  | j, false :: m => ioOf (j + 1) m
section
variable {Γ : Wd} {F F' Fr H H' : Hp} {σ σ' : L2.St} {ρ ρ' : Env} {ts : Bag} {v : V} {o : O}
theorem ioOf_ge : ∀ {m : List Bool} {j i : Nat}, i ∈ ioOf j m → j ≤ i
  | true :: m, j, i, h => by
    rcases List.mem_cons.mp h with rfl | h
    · exact Nat.le_refl _
    · exact Nat.le_of_succ_le (ioOf_ge h)
  | false :: m, j, i, h => Nat.le_of_succ_le (ioOf_ge (m := m) h)
theorem outs_hide {i : Nat} {y : Option O} : ∀ {is : List Nat} {ρ : Env}, i ∉ is → outsOf is (ρ.set i y) = outsOf is ρ
  | [], _, _ => rfl
  | j :: r, ρ, h => by
    have hj : j ≠ i := fun z => h (by rw [z]; exact List.mem_cons_self ..)
    unfold outsOf
    rw [List.getElem?_set_ne (Ne.symm hj), outs_hide (is := r) fun q => h (List.mem_cons_of_mem _ q)]
theorem outs_rep : ∀ {m : List Bool} {j : Nat} {vs : List V} {ρ : Env} {outs : Env} {ts : Bag}, m.length = vs.length → (∀ i, i ∈ ioOf j m → σ[i]? = (vs[i - j]?).map some) → outsOf (ioOf j m) ρ = some outs → GS Γ F Fr H σ ρ ts → ∃ ρ', GS Γ F Fr H σ ρ' (outM m vs outs ++ ts)
  | [], _, vs, ρ, outs, ts, l, _, e, g => ⟨ρ, by cases vs with | nil => exact g | cons _ _ => simp at l⟩
  | b :: m, j, [], _, _, _, l, _, _, _ => by simp at l
  | true :: m, j, v :: vs, ρ, outs, ts, l, hs, e, g => by
    have e : outsOf (j :: ioOf (j + 1) m) ρ = some outs := e
    unfold outsOf at e
    split at e
    · rename_i o ho
      obtain ⟨outs', e', rfl⟩ := Option.map_eq_some_iff.mp e
      have hv : σ[j]? = some (some v) := by
        have := hs j (List.mem_cons_self ..)
        rw [Nat.sub_self] at this
        simpa using this
      have g1 := g.takeAt ho hv
      have hn : j ∉ ioOf (j + 1) m := fun z => absurd (ioOf_ge z) (by omega)
      rw [← outs_hide (y := none) hn] at e'
      obtain ⟨ρ', g2⟩ := outs_rep (m := m) (j := j + 1) (vs := vs) (by simpa using l) (fun i hi => by
        have h1 := hs i (List.mem_cons_of_mem _ hi)
        have h2 := ioOf_ge hi
        rw [h1]
        have : i - j = (i - (j + 1)) + 1 := by omega
        rw [this, List.getElem?_cons_succ]) e' g1
      exact ⟨ρ', g2.perm List.perm_middle⟩
    · cases e
  | false :: m, j, v :: vs, ρ, outs, ts, l, hs, e, g =>
    outs_rep (m := m) (j := j + 1) (vs := vs) (by simpa using l) (fun i hi => by
      have h1 := hs i hi
      have h2 := ioOf_ge hi
      rw [h1]
      have : i - j = (i - (j + 1)) + 1 := by omega
      rw [this, List.getElem?_cons_succ]) e g
theorem slots_none : ∀ n : Nat, SlotsOk (List.replicate n none) (List.replicate n none)
  | 0 => trivial
  | n + 1 => ⟨fun _ z => (by cases z), slots_none n⟩
theorem live_nones : ∀ n : Nat, live (List.replicate n none) (List.replicate n none) = []
  | 0 => rfl
  | n + 1 => live_nones n
theorem start_ok : ∀ {vs : List V} {os : List O} (n : Nat), vs.length = os.length → SlotsOk (vs.map some ++ List.replicate n none) (os.map some ++ List.replicate n none) ∧ live (vs.map some ++ List.replicate n none) (os.map some ++ List.replicate n none) = vs.zip os
  | [], [], n, _ => ⟨slots_none n, live_nones n⟩
  | v :: vs, o :: os, n, h => by
    obtain ⟨h1, h2⟩ := start_ok (vs := vs) (os := os) n (by simpa using h)
    exact ⟨⟨fun x _ => ⟨v, rfl⟩, h1⟩, congrArg ((v, o) :: ·) h2⟩
  | [], _ :: _, _, h => by simp at h
  | _ :: _, [], _, h => by simp at h
theorem start_get {vs : List V} {n i : Nat} (h : i < vs.length) : (vs.map some ++ List.replicate n none)[i]? = (vs[i]?).map some := by
  rw [List.getElem?_append_left (by simpa using h), List.getElem?_map]
theorem ioOf_lt : ∀ {m : List Bool} {j i : Nat}, i ∈ ioOf j m → i < j + m.length
  | true :: m, j, i, h => by
    rcases List.mem_cons.mp h with rfl | h
    · simp
    · have := ioOf_lt h; simp; omega
  | false :: m, j, i, h => by have := ioOf_lt (m := m) h; simp; omega
end
section
variable {P : Program} {w : World} {K : PySem.W.Frag} {mg : Str → Option Value} {base : Heap} {x qual : Str} {params : Arguments} {body : List Stmt} {scope : Scope} {dvs : List V} {kws : List (Str × V)} {f : Addr} {fd : FuncData} {N ps : List Str} {k : Nat} {Γ : Wd} {stx : Stx}
theorem fn_den (Fu : FunD K x qual params body scope dvs kws f fd) (S : FnScope N ps scope) (mask : List Bool) (n np : Nat) (io : List Nat)
    (hb : ∀ (cdv : Value) (A : Around) (outer : List PySem.Env) (s : Shared) (H : Hp) (E : XK), Room k (A.deeper (envOfC qual scope s.heap.objs.size f cdv)) → DenSs (cxOf (L2.CX P w) P w K mg base N qual scope f cdv A outer s H E) Γ (fun cls d _ H => E cls d H) io body stx)
    (hn : n = N.length := by rfl) (hnp : np = ps.length := by rfl) (hio : io = ioOf 0 mask := by rfl) (hm : mask.length = np := by rfl) (hle : np ≤ n := by decide) : FnOk P w K mg base (L2.CX P w) (k + 1) f fd ps (spOf Γ (runDef n np io stx) mask) := by
  subst hn hnp hio
  refine Fu.ok S (fun vs H Q E h => ?_) (fun cdv A outer s H vs Q E hr h => ⟨_, hb cdv A outer s H E hr, ?_⟩)
  · obtain ⟨os, F, Fr, ts, l, lm, _⟩ := h
    rw [l, ← lm, hm]
  · obtain ⟨os, F, Fr, ts, l, lm, g, q⟩ := h
    have lv : vs.length = ps.length := by rw [l, ← lm, hm]
    have lo : os.length = ps.length := by rw [← lm, hm]
    obtain ⟨ok, lve⟩ := start_ok (N.length - ps.length) l
    have est : L2.start N vs = vs.map some ++ List.replicate (N.length - ps.length) none := by unfold L2.start; rw [lv]
    have g0 : GS Γ F Fr H (L2.start N vs) (os.map some ++ List.replicate (N.length - ps.length) none) ts := by
      rw [est]
      exact ⟨ok, by rw [lve]; exact g.perm List.perm_append_comm⟩
    refine ⟨_, F, Fr, ts, g0, ?_⟩
    have back : ∀ {ρ' : Env} {outs : Env} {us : Bag} {σ' : L2.St} {F' H' : Hp}, Kept (ioOf 0 mask) (L2.start N vs) σ' → GS Γ F' Fr H' σ' ρ' us → outsOf (ioOf 0 mask) ρ' = some outs → G Γ F' Fr H' [] (outM mask vs outs ++ us) := by
      intro ρ' outs us σ' F' H' kp g1 e
      obtain ⟨ρ2, g2⟩ := outs_rep (σ := σ') (m := mask) (j := 0) (vs := vs) (by rw [hm, lv]) (fun i hi => by
        rw [kp i hi, est, Nat.sub_zero]
        exact start_get (by have := ioOf_lt hi; omega)) e g1
      have g3 := g2.g
      have g4 : G Γ F' Fr H' [] (live σ' ρ2 ++ (outM mask vs outs ++ us)) := g3.perm List.perm_append_comm
      exact g4.drop
    unfold runDef at q
    rw [if_pos lo] at q
    cases eb : stx (os.map some ++ List.replicate (N.length - ps.length) none) with
    | st => rw [eb] at q; exact q
    | exc y ds ρ' =>
      rw [eb] at q
      intro cls dx σ' F' H' kp sF g1 ex
      cases eo : outsOf (ioOf 0 mask) ρ' with
      | none => simp only [eo] at q
      | some outs =>
        simp only [eo] at q
        exact q cls dx F' H' sF (back kp g1 eo) ex
    | ok fl ρ' =>
      rw [eb] at q
      cases fl with
      | brk => exact False.elim q
      | nx =>
        intro σ' F' H' kp sF g1
        cases eo : outsOf (ioOf 0 mask) ρ' with
        | none => simp only [eo] at q
        | some outs =>
          simp only [eo] at q
          exact q .non F' H' sF ((back kp g1 eo).addF (d := .non) rfl)
      | ret o =>
        intro v σ' F' H' kp sF g1
        cases eo : outsOf (ioOf 0 mask) ρ' with
        | none => simp only [eo] at q
        | some outs =>
          simp only [eo] at q
          exact q v F' H' sF ((back kp g1 eo).perm List.perm_middle)
end
end FA
namespace FA
open PySem L2
section
variable {X : Cx} {Γ : Wd} {W : WX} {e a b c : Expr} {pos p : Pos} {x : Str} {ca cb cc : Ex} {pa pb : Px}
theorem room65 {k : Nat} {A : Around} (hr : Room k A) : A.units + 65 < cLine := by have := hr.un; omega
/-- whole numbers multiplied -/
theorem s_mul : Op2S X Γ (binaryOp .Mult) opMulI := s_ints op_mul fun a b o e => by
  cases a <;> cases b <;> simp [opMulI] at e
  obtain ⟨h, e⟩ := e
  subst e
  refine ⟨_, _, _, rfl, rfl, ?_, rfl, fun _ => rfl⟩
  simp [smallI] at h
  unfold CMul
  omega
theorem ii_of {T : String} (h : ∀ d o, opIsInst T d = some o → opIsTy T d = some o) {σ : St} {H : Hp} {Q : VK} : tD Γ W (e1 (opIsInst T) ca) σ H Q → tD Γ W (e1 (opIsTy T) ca) σ H Q := fun ⟨ρ, F, Fr, ts, g, m⟩ => ⟨ρ, F, Fr, ts, g, by
  unfold e1 at m ⊢
  cases e : ca ρ with
  | exc y ds ρ' => rw [e] at m; exact m
  | st => rw [e] at m; exact m
  | ok o ρ' =>
    rw [e] at m
    have m : Post Γ W σ F Fr ts (QE Γ σ Fr ts Q) (ofOpt (opIsInst T o.fr) ρ') := m
    show Post Γ W σ F Fr ts (QE Γ σ Fr ts Q) (ofOpt (opIsTy T o.fr) ρ')
    cases e2 : opIsInst T o.fr with
    | none => rw [e2] at m; exact False.elim m
    | some z => rw [e2] at m; rw [h _ _ e2]; exact m⟩
theorem ii_bool (d : D) (o : O) : opIsInst "bool" d = some o → opIsTy "bool" d = some o := by
  cases d <;> intro h <;> first | (cases h; done) | (cases h; decide +kernel) | exact h
theorem de_isInst {T : String} {pT : Pos} (h : ∀ d o, opIsInst T d = some o → opIsTy T d = some o) (hg : Gl X "isinstance") (hm : X.mg "isinstance" = none) (hv : bootBuiltins "isinstance" = some (.builtin "isinstance")) (hg2 : Gl X (Str.ofString T)) (hm2 : X.mg (Str.ofString T) = none) (hv2 : bootBuiltins (Str.ofString T) = some (.type T))
    (ha : DenE X Γ W a ca) (hs : starEach [a, .Name (Str.ofString T) pT] X.env = (false, eval a X.env) :: starEach [.Name (Str.ofString T) pT] X.env := by rfl) (hs2 : starEach [.Name (Str.ofString T) pT] X.env = (false, eval (.Name (Str.ofString T) pT) X.env) :: starEach [] X.env := by rfl)
    (hpl : (backTo pos (starEach [.Name (Str.ofString T) pT] X.env)).any (·.1) = false := by rfl) (hn : (Str.ofString T) ≠ "__name__" := by decide) (hdb : ((Str.ofString T) == ("__debug__" : Str)) = false := by decide) :
    DenE X Γ W (.Call (.Name "isinstance" p) [a, .Name (Str.ofString T) pT] [] pos) (e1 (opIsInst T) ca) :=
  pe_imp (de_isTy hg hm hv hg2 hm2 hv2 ha hs hs2 hpl hn hdb) fun _ _ _ => ii_of h
/-- a def stands under its name and keeps its promise -/
def OkF (P : Program) (w : World) (K : PySem.W.Frag) (mg : Str → Option Value) (base : Heap) (Γ : Wd) (k : Nat) (x : Str) (ps : List Str) (f : FSem) (mask : List Bool) : Prop :=
  ∃ (fa : Addr) (fd : FuncData), mg x = some (.ref fa) ∧ PySem.W.keepIn K (.ref fa) = true ∧ Binds K fd ps [] ∧ FnOk P w K mg base (L2.CX P w) k fa fd ps (spOf Γ f mask)
theorem de_callF {k j : Nat} {ps : List Str} {f : FSem} {as : List Ar} {ar : Ar} {es : List Expr} {mask : List Bool} (h : OkF X.prog X.w X.K X.mg X.base Γ k x ps f mask) (hr : Room j X.A) (hk : k ≤ j) (tk : Takes X W) (hg : Gl X x)
    (ha : DenAr X Γ W (e :: es) (ar :: as)) (nd : (ios (ar :: as)).Nodup := by decide) (hmask : mask = (ar :: as).map isIo := by rfl) (hdb : (x == ("__debug__" : Str)) = false := by decide) (he : starEach (e :: es) X.env = (false, eval e X.env) :: starEach es X.env := by rfl) (hpl : (backTo pos (starEach es X.env)).any (·.1) = false := by rfl) :
    DenE X Γ W (.Call (.Name x p) (e :: es) [] pos) (eCall f (ar :: as)) := by
  obtain ⟨fa, fd, hm, kp, hb, Fn⟩ := h
  exact de_call Fn (hr.mono hk) tk hg hm kp hb ha nd hmask hdb he hpl
end
end FA
namespace FA
open PySem L2
section
variable {X : Cx} {Γ : Wd} {W : WX} {e a b c : Expr} {pos p p1 p2 p3 : Pos} {x : Str} {ca cb cc : Ex} {pa pb : Px}
theorem ds_never {kp : List Nat} {st : Stmt} : DenS X Γ W kp st sNever := ps_imp ps_never fun D σ H ⟨ρ, F, Fr, ts, g, m⟩ => m
end
end FA
namespace FA
open PySem PyProof.Rows L2
section
variable {X : Cx} {Γ : Wd} {W : WX} {e a b c : Expr} {pos p : Pos} {x : Str} {k : Nat} {f C : Addr} {fd : FuncData} {ps : List Str} {sp : Sp} {es : List Expr} {t : TA} {pins : List (Addr × Obj)} {σ : L2.St} {H : Hp} {s : Shared} {Q : VK} {us : List Value} {vs : List V}
/-- an object is made; its maker may raise -/
theorem run_makeS (M : Mk X.K C f) (Fn : FnOk X.prog X.w X.K X.mg X.base (L2.CX X.prog X.w) k f fd ps sp) (hr : Room (k + 1) X.A) (hb : Binds X.K fd ps []) (tk : Takes X W) (I : Inv X pins σ H s) (r : Vals vs us)
    (h : ∀ x dx, H x = none → H dx = none → dx ≠ x → sp (.ref x :: vs) (upd (upd H dx (.own x)) x (.ins C dx [])) (fun v H2 => v = .non ∧ Q (.ref x) H2) (WE W σ)) : wpAny (model X.prog X.w) X.A (call (.ref C) us) (EP X pins σ Q) X.xe s := by
  have hq := h (s.heap.objs.size + 1) s.heap.objs.size (I.hok.fresh (Nat.le_succ _)) (I.hok.fresh (Nat.le_refl _)) (Nat.ne_of_lt (Nat.lt_succ_self _))
  have I2 := Inv.made (C := C) I
  have r2 : Vals (V.ref (s.heap.objs.size + 1) :: vs) (Value.ref (s.heap.objs.size + 1) :: us) := .cons rfl r
  have hl : (Value.ref (s.heap.objs.size + 1) :: us).length = ps.length := by
    rw [← r2.length]
    exact Fn.len _ _ _ _ hq
  have hbb := hb _ (Value.ref (s.heap.objs.size + 1) :: us) I2.kIn (by rw [List.append_nil]; exact hl)
  rw [List.append_nil] at hbb
  have run := Fn.run _ X.stack _ _ ⟨Value.ref (s.heap.objs.size + 1) :: us, []⟩ (Value.ref (s.heap.objs.size + 1) :: us) _ _ (WE W σ) (hr.make C us []) (I2.env0.make C us []) hbb r2 hq
  refine wpAny_call (make_map (f := f) I.kIn M.makes M.init (beq_iff_eq.mp M.fn) (codeAny_mono run fun r s' hq' => ?_))
  cases r with
  | error e => exact passAt tk σ pins _ _ e s' I2 hq'
  | ok fl =>
    cases fl with
    | ret u =>
      obtain ⟨v, H', I3, rv, ev, q3⟩ := I2.after hq'
      subst ev
      exact ⟨rv, ⟨V.ref (s.heap.objs.size + 1), H', I3, rfl, q3⟩⟩
    | next => exact hq'.elim
    | brk => exact hq'.elim
    | cont => exact hq'.elim
def tMakeS (C : Addr) (sp : Sp) (W : WX) (t : TA) : TE := fun σ H Q => t σ H fun vs H1 => ∀ x dx, H1 x = none → H1 dx = none → dx ≠ x → sp (.ref x :: vs) (upd (upd H1 dx (.own x)) x (.ins C dx [])) (fun v H2 => v = .non ∧ Q (.ref x) H2) (WE W σ)
theorem pe_makeS (M : Mk X.K C f) (Fn : FnOk X.prog X.w X.K X.mg X.base (L2.CX X.prog X.w) k f fd ps sp) (hr : Room (k + 1) X.A) (hg : Gl X x) (hm : X.mg x = some (.ref C)) (hb : Binds X.K fd ps []) (tk : Takes X W)
    (ha : PA X (e :: es) t) (hdb : (x == ("__debug__" : Str)) = false := by decide) (he : starEach (e :: es) X.env = (false, eval e X.env) :: starEach es X.env := by rfl) (hpl : (backTo pos (starEach es X.env)).any (·.1) = false := by rfl) : PE X (.Call (.Name x p) (e :: es) [] pos) (tMakeS C sp W t) := by
  refine ⟨fun pins s σ H Q I h => wpAny_Call_Name_kw (ld_glob I hg hm ?_ hdb)⟩
  exact PySem.W.callWith_K (h₀ := X.base) I.ok.mod.kin M.kp (thn (ha.run pos pins s σ H _ I h) fun us s1 ⟨vs, H1, I1, r, q⟩ => ⟨I1.kIn, run_makeS M Fn hr hb tk I1 r q⟩) he hpl
end
end FA
namespace FA
open PySem L2
section
variable {Γ : Wd} {F F' Fr H H' : Hp} {L : List Addr} {xs : Bag} {v : V} {c : String}
theorem RepOf.toL : ∀ {fs : List (String × O)} {fvs : List (Str × V)} {fp : List Addr}, RepOf Γ F H c fs fvs fp → fvs.map (·.1) = fs.map (fun p => Str.ofString p.1) ∧ (∀ p ∈ fs, p.1 ∈ attrsOf c) ∧ RepL Γ F H ((fvs.map (·.2)).zip (fs.map (·.2))) fp
  | [], _, _, ⟨e, e2⟩ => by subst e e2; exact ⟨rfl, fun _ h => (by cases h), rfl⟩
  | (k, o) :: r, _, _, ⟨v, vr, f1, f2, e, ha, e2, h1, h2⟩ => by
    subst e e2
    obtain ⟨a1, a2, a3⟩ := RepOf.toL h2
    refine ⟨by simp [a1], fun p hp => ?_, f1, f2, rfl, h1, a3⟩
    rcases List.mem_cons.mp hp with rfl | hp
    · exact ha
    · exact a2 p hp
theorem RepOf.ofL : ∀ {fs : List (String × O)} {fvs : List (Str × V)} {fp : List Addr}, fvs.map (·.1) = fs.map (fun p => Str.ofString p.1) → (∀ p ∈ fs, p.1 ∈ attrsOf c) → RepL Γ F H ((fvs.map (·.2)).zip (fs.map (·.2))) fp → RepOf Γ F H c fs fvs fp
  | [], [], _, _, _, h => ⟨rfl, h⟩
  | [], _ :: _, _, h, _, _ => by simp at h
  | _ :: _, [], _, h, _, _ => by simp at h
  | (k, o) :: r, (s, v) :: vr, fp, h1, h2, ⟨f1, f2, e, h3, h4⟩ => by
    have e1 : s = Str.ofString k := by simpa using (List.cons.inj h1).1
    subst e1
    exact ⟨v, vr, f1, f2, rfl, h2 _ (List.mem_cons_self ..), e, h3, RepOf.ofL (List.cons.inj h1).2 (fun p hp => h2 p (List.mem_cons_of_mem _ hp)) h4⟩
/-- an instance is opened: its address is loose, its fields stand by themselves -/
theorem G.openI {fs : List (String × O)} (g : G Γ F Fr H L ((v, .ins c fs) :: xs)) : ∃ a C dx fvs, v = .ref a ∧ Γ.ct c = some C ∧ H a = some (.ins C dx fvs) ∧ fvs.map (·.1) = fs.map (fun p => Str.ofString p.1) ∧ (∀ p ∈ fs, p.1 ∈ attrsOf c) ∧ G Γ F Fr H (a :: L) ((fvs.map (·.2)).zip (fs.map (·.2)) ++ xs) := by
  obtain ⟨sb, fr, off, fp, nd, al, f1, f2, rfl, ⟨a, C, dx, fvs, f, e, hc, q, rfl, r⟩, s⟩ := g
  obtain ⟨l1, l2, r'⟩ := r.toL
  have p : ((a :: f) ++ f2 ++ L).Perm (f ++ f2 ++ (a :: L)) := by
    show (a :: (f ++ f2 ++ L)).Perm (f ++ f2 ++ (a :: L))
    exact List.perm_middle.symm
  exact ⟨a, C, dx, fvs, e, hc, q, l1, l2, ⟨sb, fr, off, f ++ f2, p.nodup_iff.mp nd, fun x hx => al x (p.mem_iff.mpr hx), r'.append s⟩⟩
theorem G.closeI {fs : List (String × O)} {fvs : List (Str × V)} {a C : Addr} {dx : Addr} (g : G Γ F Fr H (a :: L) ((fvs.map (·.2)).zip (fs.map (·.2)) ++ xs)) (hc : Γ.ct c = some C) (h : H a = some (.ins C dx fvs)) (l1 : fvs.map (·.1) = fs.map (fun p => Str.ofString p.1)) (l2 : ∀ p ∈ fs, p.1 ∈ attrsOf c) : G Γ F Fr H L ((.ref a, .ins c fs) :: xs) := by
  obtain ⟨sb, fr, off, fp, nd, al, r⟩ := g
  obtain ⟨f1, f2, rfl, r1, r2⟩ := r.split
  have p : ((a :: f1) ++ f2 ++ L).Perm (f1 ++ f2 ++ (a :: L)) := by
    show (a :: (f1 ++ f2 ++ L)).Perm (f1 ++ f2 ++ (a :: L))
    exact List.perm_middle.symm
  exact ⟨sb, fr, off, (a :: f1) ++ f2, p.nodup_iff.mpr nd, fun x hx => al x (p.mem_iff.mp hx), a :: f1, f2, rfl, ⟨a, C, dx, fvs, f1, rfl, hc, h, rfl, .ofL l1 l2 r1⟩, r2⟩
end
end FA
namespace FA
open PySem L2
section
variable {Γ : Wd} {F F' Fr H H' : Hp} {L : List Addr} {xs : Bag} {v : V} {c : String}
theorem ofString_inj {f k : String} (z : Str.ofString f = Str.ofString k) : f = k := by
  rw [Str.ofString_eq_toList, Str.ofString_eq_toList] at z
  have h : f.toList.map Char.toNat = k.toList.map Char.toNat := by simpa using z
  have inj : ∀ (a b : List Char), a.map Char.toNat = b.map Char.toNat → a = b := by
    intro a
    induction a with
    | nil => intro b h; cases b with | nil => rfl | cons _ _ => simp at h
    | cons x r ih =>
      intro b h
      cases b with
      | nil => simp at h
      | cons y s =>
        simp only [List.map_cons, List.cons.injEq] at h
        have : x = y := Char.ext (UInt32.toNat_inj.mp h.1)
        rw [this, ih s h.2]
  exact String.ext (inj _ _ h)
/-- a field set: what stood there is dropped -/
theorem putF_rep {f : String} {y : V} {x : O} : ∀ {fs : List (String × O)} {fvs : List (Str × V)}, fvs.map (·.1) = fs.map (fun p => Str.ofString p.1) →
    (L2.putF (Str.ofString f) y fvs).map (·.1) = (FA.putF fs f x).map (fun p => Str.ofString p.1) ∧ ((((L2.putF (Str.ofString f) y fvs).map (·.2)).zip ((FA.putF fs f x).map (·.2))).Perm ((y, x) :: ((fvs.map (·.2)).zip (fs.map (·.2)))) ∨
      ∃ p rest, ((fvs.map (·.2)).zip (fs.map (·.2))).Perm (p :: rest) ∧ (((L2.putF (Str.ofString f) y fvs).map (·.2)).zip ((FA.putF fs f x).map (·.2))).Perm ((y, x) :: rest))
  | [], [], _ => ⟨rfl, .inl (.refl _)⟩
  | [], _ :: _, h => by simp at h
  | _ :: _, [], h => by simp at h
  | (k, o) :: r, (s, w) :: vr, h => by
    have e1 : s = Str.ofString k := by simpa using (List.cons.inj h).1
    subst e1
    have h2 : vr.map (·.1) = r.map (fun p => Str.ofString p.1) := (List.cons.inj h).2
    unfold L2.putF FA.putF
    by_cases hk : k = f
    · subst hk
      rw [if_pos rfl, if_pos rfl]
      exact ⟨by simp [h2], .inr ⟨(w, o), _, .refl _, .refl _⟩⟩
    · rw [if_neg fun z => hk (ofString_inj z), if_neg hk]
      obtain ⟨i1, i2⟩ := putF_rep (f := f) (y := y) (x := x) h2
      refine ⟨by simp [i1], ?_⟩
      rcases i2 with i2 | ⟨p, rest, q1, q2⟩
      · exact .inl ((i2.cons _).trans (.swap _ _ _))
      · exact .inr ⟨p, (w, o) :: rest, (q1.cons _).trans (.swap _ _ _), (q2.cons _).trans (.swap _ _ _)⟩
variable {X : Cx} {W : WX} {e : Expr} {pos p : Pos} {x : Str} {ca : Ex} {kp : List Nat}
theorem putF_mem {f : String} {y : O} : ∀ {fs : List (String × O)} {p : String × O}, p ∈ FA.putF fs f y → p.1 = f ∨ p ∈ fs
  | [], p, h => by rw [List.mem_singleton.mp h]; exact .inl rfl
  | (k, o) :: r, p, h => by
    unfold FA.putF at h
    split at h
    · rename_i hk
      rcases List.mem_cons.mp h with rfl | h
      · exact .inl hk
      · exact .inr (List.mem_cons_of_mem _ h)
    · rcases List.mem_cons.mp h with rfl | h
      · exact .inr (List.mem_cons_self ..)
      · exact (putF_mem h).imp id (List.mem_cons_of_mem _)
theorem ds_setF (i : Nat) {f : String} {apos : Pos} (hK : X.K = Γ.K) (hC : ClsOk Γ.K Γ.ct) (he : DenE X Γ W e ca) (hN : X.N[i]? = some x := by rfl) (hv : Vis X.env.scope x := by first | exact Or.inl rfl | exact Or.inr (Or.inl rfl) | exact Or.inr (Or.inr rfl)) (hd : (x == ("__debug__" : Str)) = false := by decide)
    (hcd : (x == ("__classdict__" : Str)) = false := by decide) (hs : swapsWith e (some (.Attribute (.Name x p) (Str.ofString f) apos)) pos.line X.env = pure false := by rfl) :
    DenS X Γ W kp (.Assign [.Attribute (.Name x p) (Str.ofString f) apos] e pos) (sSetF (lV i) f ca) := by
  refine ps_imp (ps_fld (pv i hN hv hd hcd) he hs) fun D σ H ⟨ρ, F, Fr, ts, g, m⟩ => ⟨ρ, F, Fr, ts, g, (FlowP.bind0 m).mono fun o1 ρ1 F1 H1 s1 m1 v1 g1 => ?_⟩
  have m2 : FlowP Γ W kp D σ F1 Fr ts (match modL (i, []) (setFldO f o1) ρ1 with | some ρ' => .ok .nx ρ' | none => .st) := m1
  split at m2
  case h_2 => exact False.elim m2
  rename_i ρ3 e2
  obtain ⟨o, o', ho, e3, rfl⟩ := mod_root e2
  cases o with
  | ins c fs =>
    have e3 : (if fs.length < 1000 ∧ (attrsOf c).contains f then some (O.ins c (FA.putF fs f o1)) else none) = some o' := e3
    split at e3
    case isFalse => cases e3
    rename_i hz
    cases e3
    obtain ⟨ov, hov⟩ := g1.ok.get ho
    obtain ⟨a, C, dx, fvs, rfl, hc, hq, l1, l2, g2⟩ := G.openI (g1.takeAt ho hov).g
    obtain ⟨p1, p2⟩ := putF_rep (f := f) (y := v1) (x := o1) l1
    have hm : f ∈ attrsOf c := by simpa using hz.2
    have hlen : fvs.length = fs.length := by simpa using congrArg List.length l1
    refine ⟨_, hov, a, C, dx, fvs, rfl, hq, hK ▸ hC.cls c C hc, hK ▸ hC.no c C f hc hm, by rw [hlen]; exact hz.1, m2 σ F1 _ Kept.refl (Sub.refl _) ?_⟩
    have l2' : ∀ p ∈ FA.putF fs f o1, p.1 ∈ attrsOf c := fun p hp => by
      rcases putF_mem hp with z | z
      · rw [z]; exact hm
      · exact l2 p z
    have g3 := G.write (u := .ins C dx (L2.putF (Str.ofString f) v1 fvs)) g2
    have g4 : G Γ F1 Fr (upd H1 a (.ins C dx (L2.putF (Str.ofString f) v1 fvs))) [a] (((L2.putF (Str.ofString f) v1 fvs).map (·.2)).zip ((FA.putF fs f o1).map (·.2)) ++ (ts ++ live σ (ρ1.set i none))) := by
      rcases p2 with p2 | ⟨p, rest, q1, q2⟩
      · exact g3.perm (List.perm_middle.trans (p2.symm.append_right _))
      · have g5 := g3.perm (List.perm_middle.trans ((q1.append_right _).cons _))
        exact (G.tail (v := p.1) (o := p.2) (g5.perm (.swap _ _ _))).perm (q2.symm.append_right _)
    exact GS.putAt (v := .ref a) ⟨g1.ok.hid i, G.closeI g4 hc upd_same p1 l2'⟩ ho hov
  | _ => simp [setFldO] at e3
end
end FA
namespace FA
open PySem PySem.W PySem.Calls PyProof.Rows PyProof.V PySem.Spec L2
variable {z TI TO i1 i2 l1 l2 S : Addr} {xs ys : Array Value} {i : Nat}
def zlWr (z TO i1 i2 : Addr) (c : Addr) : Prop := c ≠ z ∧ c ≠ TO ∧ c ≠ i1 ∧ c ≠ i2
end FA
namespace FA
open PySem PyProof.Rows L2
section
variable {X : Cx} {Γ : Wd} {W : WX} {e a b c : Expr} {pos p p1 p2 p3 zpos : Pos} {x : Str} {ca cb cc : Ex} {pa pb : Px} {F F' Fr H H' : Hp} {L : List Addr} {xs : Bag} {σ : L2.St} {ρ : PySem.W.Frag}
/-- a class stands under its name, and its maker keeps its promise -/
def OkM (P : Program) (w : World) (K : PySem.W.Frag) (mg : Str → Option Value) (base : Heap) (Γ : Wd) (k : Nat) (x : Str) (c : String) (ps : List Str) (f : FSem) (mask : List Bool) : Prop :=
  ∃ (C fa : Addr) (fd : FuncData), mg x = some (.ref C) ∧ Γ.ct c = some C ∧ Mk K C fa ∧ Binds K fd ps [] ∧ FnOk P w K mg base (L2.CX P w) k fa fd ps (spOf Γ f (true :: mask))
theorem make_ok {c : String} {C : Addr} {f : FSem} {as : List Ar} {ys : List (Option O)} {vs : List V} {Q : VK} {ρ : Env} {ts : Bag} {x dx : Addr} (hc : Γ.ct c = some C) (nd : (ios as).Nodup) (hv : ArOk σ as ys vs) (g : GS Γ F Fr H σ ρ (avals ys vs ++ ts))
    (m : Post Γ W σ F Fr ts (QE Γ σ Fr ts Q) (match fillA as ys ρ with
      | none => .st
      | some os => match semMake c f os with
        | .ok o outs => match backA as outs (hide (ios as) ρ) with
          | some ρ' => .ok o ρ'
          | none => .st
        | .exc x ds outs => match backA as outs (hide (ios as) ρ) with
          | some ρ' => .exc x ds ρ'
          | none => .st
        | .st => .st)) (hx : H x = none) (hdx : H dx = none) (hne : dx ≠ x) :
    spOf Γ f (true :: as.map isIo) (.ref x :: vs) (upd (upd H dx (.own x)) x (.ins C dx [])) (fun v H2 => v = .non ∧ Q (.ref x) H2) (WE W σ) := by
  split at m
  · exact False.elim m
  · rename_i os ho
    obtain ⟨l, g1⟩ := fill_rep nd hv ho g
    have g2 := G.newF (u := .own x) g1.g hdx
    have sF := G.newSub (u := HO.own x) g1.g hdx
    have g3 := G.new (u := .ins C dx []) g2 (show upd H dx (.own x) x = none by rw [upd_ne (Ne.symm hne)]; exact hx)
    have g4 : G Γ (upd F dx (.own x)) Fr (upd (upd H dx (.own x)) x (.ins C dx [])) [] ((.ref x, .ins c []) :: (vs.zip os ++ ts ++ live σ (hide (ios as) ρ))) := G.closeI (fs := []) (fvs := []) g3 hc upd_same rfl (fun _ h => by cases h)
    refine ⟨.ins c [] :: os, _, Fr, ts ++ live σ (hide (ios as) ρ), by simp [l], by simp; rw [← hv.len, l], by rw [List.append_assoc] at g4; exact g4, ?_⟩
    unfold semMake at m
    cases e : f (.ins c [] :: os) with
    | st => rw [e] at m; exact m
    | exc y ds outs =>
      rw [e] at m
      cases outs with
      | nil => exact False.elim m
      | cons o' outs' =>
        cases o' with
        | none => exact False.elim m
        | some o' =>
          intro cls dx' F' H' s g5 ex
          have m : Post Γ W σ F Fr ts (QE Γ σ Fr ts Q) (match backA as outs' (hide (ios as) ρ) with
            | some ρ' => .exc y ds ρ'
            | none => .st) := m
          split at m
          · rename_i ρ' hb
            refine m cls dx' F' H' (sF.trans s) ?_ ex
            have g6 : G Γ F' Fr H' [] (outM (as.map isIo) vs outs' ++ (ts ++ live σ (hide (ios as) ρ))) := G.tail (v := .ref x) (o := o') g5
            exact back_rep hv hb (ts := ts) ⟨g1.ok, by rw [List.append_assoc]; exact g6⟩
          · exact False.elim m
    | ok o outs =>
      rw [e] at m
      cases outs with
      | nil =>
        have m : Post Γ W σ F Fr ts (QE Γ σ Fr ts Q) .st := by
          revert m; cases o with
          | fz d => cases d <;> exact id
          | _ => exact id
        exact False.elim m
      | cons o' outs' =>
        have key : o = .fz .non ∧ ∃ o2, o' = some o2 := by
          cases o' with
          | none => 
            exfalso; revert m; cases o with
            | fz d => cases d <;> exact id
            | _ => exact id
          | some o2 =>
            refine ⟨?_, o2, rfl⟩
            revert m; cases o with
            | fz d => cases d <;> first | (intro _; rfl) | (intro m; exact False.elim m)
            | _ => intro m; exact False.elim m
        obtain ⟨rfl, o2, rfl⟩ := key
        have m : Post Γ W σ F Fr ts (QE Γ σ Fr ts Q) (match backA as outs' (hide (ios as) ρ) with
          | some ρ' => .ok o2 ρ'
          | none => .st) := m
        split at m
        · rename_i ρ' hb
          intro v F' H' s g5
          refine ⟨G.fzF g5, m F' H' (sF.trans s) (.ref x) ?_⟩
          have g6 : G Γ F' Fr H' [] ((V.ref x, o2) :: (outM (as.map isIo) vs outs' ++ (ts ++ live σ (hide (ios as) ρ)))) := G.tail g5
          refine back_rep hv hb (ts := (V.ref x, o2) :: ts) ⟨g1.ok, ?_⟩
          rw [List.append_assoc]
          exact g6.perm List.perm_middle.symm
        · exact False.elim m
theorem de_make {k j : Nat} {c : String} {ps : List Str} {f : FSem} {as : List Ar} {ar : Ar} {es : List Expr} {mask : List Bool} (h : OkM X.prog X.w X.K X.mg X.base Γ k x c ps f mask) (hr : Room j X.A) (hk : k + 1 ≤ j) (tk : Takes X W) (hg : Gl X x)
    (ha : DenAr X Γ W (e :: es) (ar :: as)) (nd : (ios (ar :: as)).Nodup := by decide) (hmask : mask = (ar :: as).map isIo := by rfl) (hdb : (x == ("__debug__" : Str)) = false := by decide) (he : starEach (e :: es) X.env = (false, eval e X.env) :: starEach es X.env := by rfl) (hpl : (backTo pos (starEach es X.env)).any (·.1) = false := by rfl) :
    DenE X Γ W (.Call (.Name x p) (e :: es) [] pos) (eCall (semMake c f) (ar :: as)) := by
  obtain ⟨C, fa, fd, hm, hc, M, hb, Fn⟩ := h
  subst hmask
  refine pe_imp (pe_makeS M Fn (hr.mono hk) hg hm hb tk ha hdb he hpl) fun σ H Q ⟨ρ, F, Fr, ts, g, m⟩ => ⟨ρ, F, Fr, ts, g, (Post.bind0 m).mono fun ys ρ1 F1 H1 s1 m1 vs hv g1 => ?_⟩
  exact fun x dx hx hdx hne => make_ok hc nd hv g1 m1 hx hdx hne
end
end FA
namespace FA
open PySem PySem.W PySem.Calls PyProof.Rows L2
mutual
def nkOf : D → NestedKey
  | .bl b => .num (if b then 1 else 0)
  | .int i => .num i
  | .str s => .text (Str' s)
  | .tup ds => .tup (nksOf ds)
  | _ => .none
def nksOf : List D → List NestedKey
  | [] => []
  | d :: r => nkOf d :: nksOf r
end
mutual
def isNk : D → Bool
  | .non => true
  | .bl _ => true
  | .int _ => true
  | .str _ => true
  | .tup ds => isNks ds
  | _ => false
def isNks : List D → Bool
  | [] => true
  | d :: r => isNk d && isNks r
end
theorem nks_of {n : Nat} (ih : ∀ d, nkN n d = true → isNk d = true ∧ (nkOf d).depth ≤ n) : ∀ ds : List D, ds.all (nkN n) = true → isNks ds = true ∧ NestedKey.depthAll (nksOf ds) ≤ n
  | [], _ => ⟨rfl, Nat.zero_le _⟩
  | d :: r, h => by
    simp only [List.all_cons, Bool.and_eq_true] at h
    obtain ⟨a, b⟩ := ih d h.1
    obtain ⟨c, e⟩ := nks_of ih r h.2
    refine ⟨by unfold isNks; rw [a, c]; rfl, ?_⟩
    show max (nkOf d).depth (NestedKey.depthAll (nksOf r)) ≤ n
    omega
theorem nk_of : ∀ (n : Nat) (d : D), nkN n d = true → isNk d = true ∧ (nkOf d).depth ≤ n
  | n, .non, _ => ⟨rfl, Nat.zero_le _⟩
  | n, .bl _, _ => ⟨rfl, Nat.zero_le _⟩
  | n, .int _, _ => ⟨rfl, Nat.zero_le _⟩
  | n, .str _, _ => ⟨rfl, Nat.zero_le _⟩
  | 0, .tup ds, h => by simp [nkN] at h
  | n + 1, .tup ds, h => by
    obtain ⟨a, b⟩ := nks_of (nk_of n) ds h
    refine ⟨by unfold isNk; exact a, ?_⟩
    show NestedKey.depthAll (nksOf ds) + 1 ≤ n + 1
    omega
  | n, .lst _, h => by cases n <;> simp [nkN] at h
  | n, .dic _, h => by cases n <;> simp [nkN] at h
  | n, .ins _ _, h => by cases n <;> simp [nkN] at h
  | n, .scr _, h => by cases n <;> simp [nkN] at h
mutual
theorem eqv_nk : ∀ (a b : D), isNk a = true → isNk b = true → eqv a b = NestedKey.beq (nkOf a) (nkOf b)
  | .non, b, _, h => by cases b <;> first | rfl | (simp [isNk] at h)
  | .bl x, b, _, h => by
    cases b <;> first | rfl | (simp [isNk] at h; done) | skip
    all_goals (rename_i y; unfold eqv; cases x <;> first | (cases y <;> rfl) | (rw [Bool.eq_iff_iff]; simp [nkOf, NestedKey.beq]))
  | .int x, b, _, h => by
    cases b <;> first | rfl | (simp [isNk] at h; done) | skip
    all_goals (rename_i y; unfold eqv; first | (rw [Bool.eq_iff_iff]; simp [nkOf, NestedKey.beq]; done) | (cases y <;> (rw [Bool.eq_iff_iff]; simp [nkOf, NestedKey.beq])))
  | .str x, b, _, h => by
    cases b <;> first | rfl | (simp [isNk] at h; done) | skip
    unfold eqv
    rw [Bool.eq_iff_iff]
    simp only [beq_iff_eq, nkOf, NestedKey.beq, decide_eq_true_eq]
    exact ⟨fun h => by rw [h], fun h => Str'_inj.mp h⟩
  | .tup x, b, h, h2 => by
    cases b <;> first | rfl | (simp [isNk] at h2; done) | skip
    rename_i y
    unfold eqv
    show _ = NestedKey.beqAll (nksOf x) (nksOf y)
    exact eqvs_nk x y (by unfold isNk at h; exact h) (by unfold isNk at h2; exact h2)
  | .lst _, _, h, _ => by simp [isNk] at h
  | .dic _, _, h, _ => by simp [isNk] at h
  | .ins _ _, _, h, _ => by simp [isNk] at h
  | .scr _, _, h, _ => by simp [isNk] at h
theorem eqvs_nk : ∀ (a b : List D), isNks a = true → isNks b = true → eqvs a b = NestedKey.beqAll (nksOf a) (nksOf b)
  | [], [], _, _ => rfl
  | [], _ :: _, _, _ => rfl
  | _ :: _, [], _, _ => rfl
  | a :: r, b :: s, h, h2 => by
    unfold isNks at h h2
    simp only [Bool.and_eq_true] at h h2
    unfold eqvs
    show _ = (NestedKey.beq (nkOf a) (nkOf b) && NestedKey.beqAll (nksOf r) (nksOf s))
    rw [eqv_nk a b h.1 h2.1, eqvs_nk r s h.2 h2.2]
end
theorem eqv_key {a b : D} (ha : nkN 8 a = true) (hb : nkN 8 b = true) : eqv a b = decide (nkOf a = nkOf b) := by
  rw [NestedKey.decide_eq]; exact eqv_nk a b (nk_of 8 a ha).1 (nk_of 8 b hb).1
section
variable {P : Program} {w : World} {H F : Hp} {h : Heap}
mutual
theorem nested_of (ok : HOk P w H h) : ∀ {d : D} {v : V} {u : Value}, RepK H d v → RelV v u → NestedIs h (nkOf d) u
  | .non, v, u, r, q => by cases (show v = _ from r); cases (show u = _ from q); exact .none
  | .bl b, v, u, r, q => by cases (show v = _ from r); cases (show u = _ from q); exact .bool rfl
  | .int i, v, u, r, q => by cases (show v = _ from r); obtain ⟨t, rfl⟩ := (show ∃ t, u = _ from q); exact .int _ _
  | .str s, v, u, r, q => by cases (show v = _ from r); obtain ⟨t, rfl⟩ := (show ∃ t, u = _ from q); exact .text _ _
  | .tup ds, v, u, ⟨a, vs, e, ha, rs⟩, q => by
    subst e
    cases (show u = Value.ref a from q)
    obtain ⟨_, its, r, o, h1, h2, n, h3⟩ := (show ObjOk P w H h a (.tup vs) from ok a _ ha)
    exact .tup h1 h2 h3 (by simpa using nested_all ok rs r)
  | .lst _, _, _, r, _ => r.elim
  | .dic _, _, _, r, _ => r.elim
  | .ins _ _, _, _, r, _ => r.elim
  | .scr _, _, _, r, _ => r.elim
theorem nested_all (ok : HOk P w H h) : ∀ {ds : List D} {vs : List V} {us : List Value}, RepKs H ds vs → Vals vs us → NestedAll h (nksOf ds) us
  | [], vs, us, e, r => by
    cases (show vs = [] from e)
    cases r
    exact .nil
  | d :: ds, vs, us, ⟨v, vr, e, r1, r2⟩, r => by
    subst e
    cases r with
    | cons a b => exact .cons (nested_of ok r1 a) (nested_all ok r2 b)
end
theorem key_is {k : D} {b : Addr} (ok : HOk P w H h) (r : RepK H k (.ref b)) (hk : nkN 8 k = true) : (nestedKind P w).is h (nkOf k) b := ⟨nested_of ok r rfl, (nk_of 8 k hk).2⟩
theorem rep_tup {k : D} {v : V} (r : RepK H k v) (hk : isTupD k = true) : ∃ b, v = .ref b := by
  cases k <;> first | (cases hk; done) | skip
  obtain ⟨a, _, e, _⟩ := r
  exact ⟨a, e⟩
mutual
theorem repK_of {Γ : Wd} : ∀ {d : D} {v : V}, isNk d = true → RepF Γ F d v → RepK F d v
  | .non, _, _, r => r
  | .bl _, _, _, r => r
  | .int _, _, _, r => r
  | .str _, _, _, r => r
  | .tup ds, _, h, ⟨a, vs, e, q, r⟩ => ⟨a, vs, e, q, repKs_of (by unfold isNk at h; exact h) r⟩
  | .lst _, _, h, _ => by simp [isNk] at h
  | .dic _, _, h, _ => by simp [isNk] at h
  | .ins _ _, _, h, _ => by simp [isNk] at h
  | .scr _, _, h, _ => by simp [isNk] at h
theorem repKs_of {Γ : Wd} : ∀ {ds : List D} {vs : List V}, isNks ds = true → RepFs Γ F ds vs → RepKs F ds vs
  | [], _, _, r => r
  | d :: ds, _, h, ⟨v, vr, e, r1, r2⟩ => by
    unfold isNks at h
    simp only [Bool.and_eq_true] at h
    exact ⟨v, vr, e, repK_of h.1 r1, repKs_of h.2 r2⟩
end
end
abbrev KX : List (D × Addr × V) → List (NestedKey × Addr × Value) → Prop := Paired fun p q => nkOf p.1 = q.1 ∧ p.2.1 = q.2.1 ∧ RelV p.2.2 q.2.2 ∧ nkN 8 p.1 = true
def ObT (P : Program) (w : World) (a : Addr) (xs : List (D × Addr × V)) (h : Heap) : Prop :=
  xs.length ≤ sizeLine ∧ (a == sysModules) = false ∧ ∃ ws, KX xs ws ∧ ∃ o es ep, h.get? a = some o ∧ o.ExactDict ∧ o.data = .dict es ep ∧ es.toList = ws.map (entryOfKey (nestedKind P w)) ∧ (ws.map (·.1)).Nodup
theorem ObT.stay {P : Program} {w : World} {a : Addr} {xs : List (D × Addr × V)} {h1 h2 : Heap} (x : ObT P w a xs h1) (k : ∀ o, h1.get? a = some o → h2.get? a = some o) : ObT P w a xs h2 := by
  obtain ⟨z, y, ws, r, o, es, ep, e, c⟩ := x
  exact ⟨z, y, ws, r, o, es, ep, k _ e, c⟩
theorem ObT.ok {P : Program} {w : World} {H : Hp} {a : Addr} {xs : List (D × Addr × V)} {h : Heap} (x : ObT P w a xs h) : ObjOk P w H h a (.ext (ObT P w a xs)) := by
  refine ⟨x, ?_, fun h1 h2 y k => y.stay k⟩
  obtain ⟨z, y, ws, r, o, es, ep, e, c⟩ := x
  exact ⟨o, e⟩
abbrev kvsX (xs : List (D × Addr × V)) : List (D × V) := xs.map fun x => (x.1, x.2.2)
theorem KX.val {k : D} (hk : nkN 8 k = true) {xs : List (D × Addr × V)} {ws : List (NestedKey × Addr × Value)} (r : KX xs ws) : RelO (FA.getK (kvsX xs) k) ((atKey ws (nkOf k)).map (·.2)) := by
  induction r with
  | nil => exact True.intro
  | @cons p q ps qs h t ih =>
    obtain ⟨h1, _, h2, h3⟩ := h
    show RelO (if eqv p.1 k then some p.2.2 else FA.getK (kvsX ps) k) _
    rw [eqv_key h3 hk]
    by_cases e : nkOf p.1 = nkOf k
    · have e' : q.1 = nkOf k := h1.symm.trans e
      have b : atKey (q :: qs) (nkOf k) = some q.2 := by simp [atKey, List.find?_cons, e']
      rw [decide_eq_true e, b]; exact h2
    · have e' : ¬ q.1 = nkOf k := fun z => e (h1.trans z)
      have b : atKey (q :: qs) (nkOf k) = atKey qs (nkOf k) := by simp [atKey, List.find?_cons, e']
      rw [decide_eq_false e, b]
      exact ih
/-- stored -/
def putX : List (D × Addr × V) → D → Addr → V → List (D × Addr × V)
  | [], k, b, v => [(k, b, v)]
  | x :: r, k, b, v => if eqv x.1 k then (x.1, x.2.1, v) :: r else x :: putX r k b v
theorem kvs_putX (k : D) (b : Addr) (v : V) : ∀ xs : List (D × Addr × V), kvsX (putX xs k b v) = FA.putK (kvsX xs) k v
  | [] => rfl
  | x :: r => by
    show kvsX (if eqv x.1 k then _ else _) = (if eqv x.1 k then _ else _)
    split
    · rfl
    · show (x.1, x.2.2) :: kvsX (putX r k b v) = _
      rw [kvs_putX k b v r]
theorem putX_len (k : D) (b : Addr) (v : V) : ∀ xs : List (D × Addr × V), (putX xs k b v).length ≤ xs.length + 1
  | [] => Nat.le_refl _
  | x :: r => by
    unfold putX
    split
    · simp
    · have := putX_len k b v r; simp; omega
theorem putX_mem (k : D) (b : Addr) (v : V) : ∀ (xs : List (D × Addr × V)) (y : D × Addr × V), y ∈ putX xs k b v → (∃ z ∈ xs, z.1 = y.1 ∧ z.2.1 = y.2.1) ∨ (y.1 = k ∧ y.2.1 = b)
  | [], y, h => by
    have : y = (k, b, v) := by simpa [putX] using h
    subst this
    exact .inr ⟨rfl, rfl⟩
  | x :: r, y, h => by
    unfold putX at h
    split at h
    · rcases List.mem_cons.mp h with e | h
      · subst e; exact .inl ⟨x, List.mem_cons_self .., rfl, rfl⟩
      · exact .inl ⟨y, List.mem_cons_of_mem _ h, rfl, rfl⟩
    · rcases List.mem_cons.mp h with e | h
      · subst e; exact .inl ⟨y, List.mem_cons_self .., rfl, rfl⟩
      · rcases putX_mem k b v r y h with ⟨z, hz, e⟩ | e
        · exact .inl ⟨z, List.mem_cons_of_mem _ hz, e⟩
        · exact .inr e
theorem putX_ne (k : D) (b : Addr) (v : V) (xs : List (D × Addr × V)) : putX xs k b v ≠ [] := by
  cases xs with
  | nil => simp [putX]
  | cons x r => unfold putX; split <;> simp
theorem stored_cons {q : NestedKey × Addr × Value} {qs : List (NestedKey × Addr × Value)} {n : NestedKey} (h : q.1 ≠ n) (b : Addr) (u : Value) : storedH (q :: qs) n b u = q :: storedH qs n b u := by
  have e : atKey (q :: qs) n = atKey qs n := by simp [atKey, List.find?_cons, h]
  unfold storedH
  rw [e]
  split
  · rw [List.map_cons]; congr 1; unfold PySem.putAt; rw [if_neg h]
  · rfl
theorem KX.put {k : D} {b : Addr} {v : V} {u : Value} (hk : nkN 8 k = true) (rv : RelV v u) {xs : List (D × Addr × V)} {ws : List (NestedKey × Addr × Value)} (r : KX xs ws) : (ws.map (·.1)).Nodup → KX (putX xs k b v) (storedH ws (nkOf k) b u) := by
  induction r with
  | nil => intro _; exact .cons ⟨rfl, rfl, rv, hk⟩ .nil
  | @cons p q ps qs h t ih =>
    intro nd
    obtain ⟨h1, h2, h3, h4⟩ := h
    have nd' := List.nodup_cons.mp (show (q.1 :: qs.map (·.1)).Nodup from nd)
    unfold putX
    rw [eqv_key h4 hk]
    by_cases e : nkOf p.1 = nkOf k
    · have e' : q.1 = nkOf k := h1.symm.trans e
      rw [decide_eq_true e]
      have b1 : atKey (q :: qs) (nkOf k) = some q.2 := by simp [atKey, List.find?_cons, e']
      have same : qs.map (PySem.putAt (nkOf k) u) = qs := by
        conv => rhs; rw [← List.map_id qs]
        apply List.map_congr_left
        intro z hz
        unfold PySem.putAt
        rw [if_neg fun c => nd'.1 (by rw [e', ← c]; exact List.mem_map_of_mem hz)]
        rfl
      rw [storedH_old b1, List.map_cons, same]
      have : PySem.putAt (nkOf k) u q = (q.1, q.2.1, u) := by unfold PySem.putAt; rw [if_pos e']
      rw [this]
      exact .cons ⟨h1, h2, rv, h4⟩ t
    · have e' : ¬ q.1 = nkOf k := fun z => e (h1.trans z)
      rw [decide_eq_false e, stored_cons e']
      exact .cons ⟨h1, h2, h3, h4⟩ (ih nd'.2)
/-- a dict of tuples, or an empty one -/
def KeyedAt (P : Program) (w : World) (H : Hp) (a : Addr) (xs : List (D × Addr × V)) : Prop := ((xs = [] ∧ H a = some (.dK [])) ∨ H a = some (.ext (ObT P w a xs))) ∧ ∀ x ∈ xs, RepK H x.1 (.ref x.2.1)
/-- the same to be read only -/
def KeyedR (P : Program) (w : World) (H : Hp) (a : Addr) (xs : List (D × Addr × V)) : Prop := ((xs = [] ∧ Rd H a (.dK [])) ∨ Rd H a (.ext (ObT P w a xs))) ∧ ∀ x ∈ xs, RepK H x.1 (.ref x.2.1)
theorem KeyedAt.rd {P : Program} {w : World} {H : Hp} {a : Addr} {xs : List (D × Addr × V)} (g : KeyedAt P w H a xs) : KeyedR P w H a xs := by
  obtain ⟨g, k⟩ := g
  refine ⟨?_, k⟩
  rcases g with ⟨e, e2⟩ | e
  · exact .inl ⟨e, .inl e2⟩
  · exact .inr (.inl e)
section
variable {X : Cx} {pins : List (Addr × Obj)} {σ : L2.St} {H : Hp} {s : Shared} {a b : Addr} {v : V} {u r : Value} {A : Around} {E : Value → Shared → Prop} {xs : List (D × Addr × V)} {k : D}
theorem KeyedR.dict (ok : HOk X.prog X.w H s.heap) (g : KeyedR X.prog X.w H a xs) : (a == sysModules) = false ∧ xs.length ≤ sizeLine ∧ ∃ ws, KX xs ws ∧ s.heap.DictOfH (nestedKind X.prog X.w) a ws := by
  obtain ⟨g, hk⟩ := g
  rcases g with ⟨e, e2⟩ | e
  · subst e
    obtain ⟨z, hd, vs, rel, dd⟩ := dk_rd ok e2
    cases rel
    obtain ⟨o, es, ep, h1, h2, h3, h4, h5, h6⟩ := dd
    refine ⟨hd, Nat.zero_le _, [], .nil, o, es, ep, h1, h2, h3, ?_, fun x hx => (nomatch hx), List.nodup_nil⟩
    cases hl : es.toList with
    | nil => rfl
    | cons x r => rw [hl] at h5; cases h5
  · obtain ⟨⟨z, hd, ws, rel, o, es, ep, h1, h2, h3, h4, h5⟩, _⟩ := (show ObjOk X.prog X.w H s.heap a (.ext (ObT X.prog X.w a xs)) from by
      rcases e with e | ⟨o, e⟩
      · exact ok a _ e
      · exact (ok a _ e).2)
    refine ⟨hd, z, ws, rel, o, es, ep, h1, h2, h3, h4, ?_, h5⟩
    have all : ∀ {l : List (D × Addr × V)} {m : List (NestedKey × Addr × Value)}, KX l m → (∀ x ∈ l, RepK H x.1 (.ref x.2.1)) → ∀ x ∈ m, (nestedKind X.prog X.w).is s.heap x.1 x.2.1 := by
      intro l m q
      induction q with
      | nil => intro _ x hx; exact nomatch hx
      | @cons p q ps qs hq t ih =>
        intro hk x hx
        rcases List.mem_cons.mp hx with e | hx
        · subst e
          have := key_is (P := X.prog) (w := X.w) ok (hk p (List.mem_cons_self ..)) hq.2.2.2
          rw [hq.1, hq.2.1] at this
          exact this
        · exact ih (fun y hy => hk y (List.mem_cons_of_mem _ hy)) x hx
    exact all rel hk
theorem KeyedAt.dict (ok : HOk X.prog X.w H s.heap) (g : KeyedAt X.prog X.w H a xs) : (a == sysModules) = false ∧ xs.length ≤ sizeLine ∧ ∃ ws, KX xs ws ∧ s.heap.DictOfH (nestedKind X.prog X.w) a ws := g.rd.dict ok
theorem room_nk (hu : A.units + 65 < cLine) : (nestedKind X.prog X.w).room A.in1 := by
  show A.units + 1 + 8 < cLine
  omega
theorem kx_get {Q : Value → Shared → Prop} (hu : A.units + 65 < cLine) (I : Inv X pins σ H s) (g : KeyedR X.prog X.w H a xs) (rk : RepK H k (.ref b)) (hk : nkN 8 k = true) (hv : FA.getK (kvsX xs) k = some v) (h : ∀ w' s', Inv X pins σ H s' → RelV v w' → Q w' s') :
    wpAny (model X.prog X.w) A (getItem (.ref a) (.ref b)) Q E s := by
  obtain ⟨hd, z, ws, rel, dd⟩ := g.dict I.hok
  obtain ⟨w', hw, rw'⟩ := RelO.some_of (v := v) (o := (atKey ws (nkOf k)).map (·.2)) (by rw [← hv]; exact rel.val hk)
  obtain ⟨p, hp, hp2⟩ := Option.map_eq_some_iff.mp hw
  refine wpAny_getItem_heap (room_nk hu) (key_is I.hok rk hk) dd hp ?_
  rw [hp2]
  exact h w' _ (I.tok _) rw'
theorem kx_in {Q : Value → Shared → Prop} (hu : A.units + 65 < cLine) (I : Inv X pins σ H s) (g : KeyedR X.prog X.w H a xs) (rk : RepK H k (.ref b)) (hk : nkN 8 k = true) (h : ∀ s', Inv X pins σ H s' → Q (.bool (FA.getK (kvsX xs) k).isSome) s') :
    wpAny (model X.prog X.w) A (compareOp .In (.ref b) (.ref a)) Q E s := by
  obtain ⟨hd, z, ws, rel, dd⟩ := g.dict I.hok
  refine wpAny_in_heap (room_nk hu) (key_is I.hok rk hk) hd dd ?_
  have q := (rel.val hk).isSome_eq
  rw [Option.isSome_map] at q
  rw [← q]
  exact h _ (I.tok _)
theorem kx_notIn {Q : Value → Shared → Prop} (hu : A.units + 65 < cLine) (I : Inv X pins σ H s) (g : KeyedR X.prog X.w H a xs) (rk : RepK H k (.ref b)) (hk : nkN 8 k = true) (h : ∀ s', Inv X pins σ H s' → Q (.bool (!(FA.getK (kvsX xs) k).isSome)) s') :
    wpAny (model X.prog X.w) A (compareOp .NotIn (.ref b) (.ref a)) Q E s := by
  obtain ⟨hd, z, ws, rel, dd⟩ := g.dict I.hok
  refine wpAny_notIn_heap (room_nk hu) (key_is I.hok rk hk) hd dd ?_
  have q := (rel.val hk).isSome_eq
  rw [Option.isSome_map] at q
  rw [← q]
  exact h _ (I.tok _)
theorem kx_set {Q : Unit → Shared → Prop} (hu : A.units + 65 < cLine) (I : Inv X pins σ H s) (g : KeyedAt X.prog X.w H a xs) (rk : RepK H k (.ref b)) (hk : nkN 8 k = true) (hl : xs.length < sizeLine) (rv : RelV v r)
    (h : ∀ s', Inv X pins σ (upd H a (.ext (ObT X.prog X.w a (putX xs k b v)))) s' → Q () s') : wpAny (model X.prog X.w) A (setItem (.ref a) (.ref b) r) Q E s := by
  obtain ⟨hd, z, ws, rel, dd⟩ := g.dict I.hok
  have hz : ws.length ≤ sizeLine := by rw [← Paired.length rel]; exact z
  have nd : (ws.map (·.1)).Nodup := by obtain ⟨_, _, _, _, _, _, _, _, n⟩ := dd; exact n
  refine wpAny_setItem_heap (hsz := hz) (room_nk hu) (key_is I.hok rk hk) dd fun h' dd' hs => h _ ?_
  obtain ⟨q, es, ep, hq, h2, h3, h4, _, h5⟩ := dd'
  have mu : Mut (H a) := by
    rcases g.1 with ⟨_, e⟩ | e <;> (rw [e]; exact True.intro)
  refine d_write I mu hs ⟨q, hq⟩ (ObT.ok ⟨?_, hd, _, rel.put hk rv nd, q, es, ep, hq, h2, h3, h4, h5⟩)
  have := putX_len k b v xs
  omega
theorem keyed_type (I : Inv X pins σ H s) (g : KeyedR X.prog X.w H a xs) : s.TypeIs (.ref a) "dict" := by
  obtain ⟨_, _, ws, _, dd⟩ := g.dict I.hok
  exact dd.typeIs
end
end FA
namespace FA
open PySem PyProof.Rows L2
section
variable {Γ : Wd} {F F' Fr H H' : Hp} {L : List Addr} {xs : Bag} {v : V}
theorem RepOk.toL : ∀ {kos : List (D × O)} {kvv : List (D × V)} {fp : List Addr}, RepOk Γ F H kos kvv fp → kvv.map (·.1) = kos.map (·.1) ∧ RepL Γ F H ((kvv.map (·.2)).zip (kos.map (·.2))) fp
  | [], _, _, ⟨e, e2⟩ => by subst e e2; exact ⟨rfl, rfl⟩
  | (k, o) :: r, _, _, ⟨v, vr, f1, f2, e, e2, h1, h2⟩ => by
    subst e e2
    obtain ⟨a1, a2⟩ := RepOk.toL h2
    exact ⟨by simp [a1], f1, f2, rfl, h1, a2⟩
theorem RepOk.ofL : ∀ {kos : List (D × O)} {kvv : List (D × V)} {fp : List Addr}, kvv.map (·.1) = kos.map (·.1) → RepL Γ F H ((kvv.map (·.2)).zip (kos.map (·.2))) fp → RepOk Γ F H kos kvv fp
  | [], [], _, _, h => ⟨rfl, h⟩
  | [], _ :: _, _, h, _ => by simp at h
  | _ :: _, [], _, h, _ => by simp at h
  | (k, o) :: r, (s, v) :: vr, fp, h1, ⟨f1, f2, e, h3, h4⟩ => by
    have e1 : s = k := by simpa using (List.cons.inj h1).1
    subst e1
    exact ⟨v, vr, f1, f2, rfl, e, h3, RepOk.ofL (List.cons.inj h1).2 h4⟩
theorem G.openD {kos : List (D × O)} (g : G Γ F Fr H L ((v, .dic kos) :: xs)) : ∃ a kvv, v = .ref a ∧ DicRep Γ F H a kvv ∧ kvv.map (·.1) = kos.map (·.1) ∧ G Γ F Fr H (a :: L) ((kvv.map (·.2)).zip (kos.map (·.2)) ++ xs) := by
  obtain ⟨sb, fr, off, fp, nd, al, f1, f2, rfl, ⟨a, kvv, f, e, q, rfl, r⟩, s⟩ := g
  obtain ⟨l1, r'⟩ := r.toL
  have p : ((a :: f) ++ f2 ++ L).Perm (f ++ f2 ++ (a :: L)) := by
    show (a :: (f ++ f2 ++ L)).Perm (f ++ f2 ++ (a :: L))
    exact List.perm_middle.symm
  exact ⟨a, kvv, e, q, l1, ⟨sb, fr, off, f ++ f2, p.nodup_iff.mp nd, fun x hx => al x (p.mem_iff.mpr hx), r'.append s⟩⟩
theorem G.closeD {kos : List (D × O)} {kvv : List (D × V)} {a : Addr} (g : G Γ F Fr H (a :: L) ((kvv.map (·.2)).zip (kos.map (·.2)) ++ xs)) (q : DicRep Γ F H a kvv) (l1 : kvv.map (·.1) = kos.map (·.1)) : G Γ F Fr H L ((.ref a, .dic kos) :: xs) := by
  obtain ⟨sb, fr, off, fp, nd, al, r⟩ := g
  obtain ⟨f1, f2, rfl, r1, r2⟩ := r.split
  have p : ((a :: f1) ++ f2 ++ L).Perm (f1 ++ f2 ++ (a :: L)) := by
    show (a :: (f1 ++ f2 ++ L)).Perm (f1 ++ f2 ++ (a :: L))
    exact List.perm_middle.symm
  exact ⟨sb, fr, off, (a :: f1) ++ f2, p.nodup_iff.mpr nd, fun x hx => al x (p.mem_iff.mp hx), a :: f1, f2, rfl, ⟨a, kvv, f1, rfl, q, rfl, .ofL l1 r1⟩, r2⟩
theorem key_of {k : D} (h : leafD k = true) : ∃ q, keyOf k = some q := by
  cases k <;> first | exact ⟨_, rfl⟩ | cases h
theorem key_eqv {k k2 : D} {q q2 : Key} (h : keyOf k = some q) (h2 : keyOf k2 = some q2) : eqv k k2 = decide (q = q2) := by
  cases k <;> cases h <;> cases k2 <;> cases h2
  · unfold eqv; rw [Bool.eq_iff_iff]; simp
  · unfold eqv; simp
  · unfold eqv; simp
  · unfold eqv
    rw [Bool.eq_iff_iff]
    simp
    exact ⟨fun h => by rw [h], fun h => Str'_inj.mp h⟩
theorem key_kV {k : D} {q : Key} (h : keyOf k = some q) {u : V} (r : RepF Γ F k u) : u = kV q := by
  cases k <;> cases h <;> exact r
structure Leaf (kk : List (Key × V)) (kvv : List (D × V)) : Prop where
  ks : kk.map (fun p => some p.1) = kvv.map (fun p => keyOf p.1)
  vs : kk.map (·.2) = kvv.map (·.2)
  nd : (kk.map (·.1)).Nodup
/-- stored: both sides -/
theorem leaf_put {q : Key} {k : D} {y : V} (hk : keyOf k = some q) : ∀ {kk : List (Key × V)} {kvv : List (D × V)}, Leaf kk kvv → Leaf (L2.putK kk q y) (FA.putK kvv k y) := by
  have key : ∀ {kk : List (Key × V)} {kvv : List (D × V)}, Leaf kk kvv → ((kk.any fun kv => decide (kv.1 = q)) = true → Leaf (kk.map fun kv => if kv.1 = q then (kv.1, y) else kv) (FA.putK kvv k y)) ∧ ((kk.any fun kv => decide (kv.1 = q)) = false → (kk ++ [(q, y)]).map (fun p => some p.1) = (FA.putK kvv k y).map (fun p => keyOf p.1) ∧ (kk ++ [(q, y)]).map (·.2) = (FA.putK kvv k y).map (·.2)) := by
    intro kk
    induction kk with
    | nil =>
      intro kvv h
      cases kvv with
      | nil => exact ⟨fun z => by simp at z, fun _ => by simp [FA.putK, hk]⟩
      | cons a r => have := h.ks; simp at this
    | cons p kk ih =>
      intro kvv h
      obtain ⟨q', w⟩ := p
      cases kvv with
      | nil => have := h.ks; simp at this
      | cons a r =>
        obtain ⟨k', w'⟩ := a
        have h1 : some q' = keyOf k' := (List.cons.inj h.ks).1
        have h2 := (List.cons.inj h.ks).2
        have h3 : w = w' := (List.cons.inj h.vs).1
        have h4 := (List.cons.inj h.vs).2
        have h5 := List.nodup_cons.mp h.nd
        have hl : Leaf kk r := ⟨h2, h4, h5.2⟩
        obtain ⟨i1, i2⟩ := ih hl
        unfold FA.putK
        rw [key_eqv h1.symm hk]
        by_cases e : q' = q
        · subst e
          have same : kk.map (fun kv => if kv.1 = q' then (kv.1, y) else kv) = kk := by
            conv => rhs; rw [← List.map_id kk]
            apply List.map_congr_left
            intro z hz
            rw [if_neg fun e => h5.1 (List.mem_map.mpr ⟨z, hz, e⟩)]
            rfl
          refine ⟨fun _ => ?_, fun z => by simp at z⟩
          simp only [decide_true, if_true, List.map_cons, same]
          exact ⟨by simp [h1, h2], by simp [h4], h.nd⟩
        · simp only [List.any_cons, e, decide_false, Bool.false_or, Bool.false_eq_true, if_false, List.map_cons, List.cons_append]
          refine ⟨fun z => ?_, fun z => ?_⟩
          · have := i1 z
            refine ⟨by simp [h1, this.ks], by simp [h3, this.vs], ?_⟩
            have hm : (kk.map fun kv => if kv.1 = q then (kv.1, y) else kv).map (·.1) = kk.map (·.1) := by
              rw [List.map_map]
              apply List.map_congr_left
              intro z _
              simp only [Function.comp]
              split <;> rfl
            rw [List.map_cons, hm]
            exact h.nd
          · obtain ⟨a, b⟩ := i2 z
            exact ⟨by rw [a, h1], by rw [b, h3]⟩
  intro kk kvv h
  obtain ⟨k1, k2⟩ := key h
  unfold L2.putK
  by_cases c : (kk.any fun kv => decide (kv.1 = q)) = true
  · rw [if_pos c]; exact k1 c
  · rw [if_neg c]
    have c' : (kk.any fun kv => decide (kv.1 = q)) = false := Bool.eq_false_iff.mpr c
    obtain ⟨a, b⟩ := k2 c'
    refine ⟨a, b, ?_⟩
    rw [List.map_append]
    refine List.nodup_append.mpr ⟨h.nd, by simp, fun x hx z hz e => ?_⟩
    rw [List.map_singleton, List.mem_singleton] at hz
    obtain ⟨p, hp, rfl⟩ := List.mem_map.mp hx
    have : (kk.any fun kv => decide (kv.1 = q)) = true := List.any_eq_true.mpr ⟨p, hp, by simp [e, hz]⟩
    rw [c'] at this; cases this
/-- the values' bag behind a store -/
theorem put_bag {k : D} {y : V} {x : O} : ∀ {kos : List (D × O)} {kvv : List (D × V)}, kvv.map (·.1) = kos.map (·.1) →
    (FA.putK kvv k y).map (·.1) = (FA.putK kos k x).map (·.1) ∧ ((((FA.putK kvv k y).map (·.2)).zip ((FA.putK kos k x).map (·.2))).Perm ((y, x) :: ((kvv.map (·.2)).zip (kos.map (·.2)))) ∨
      ∃ p rest, ((kvv.map (·.2)).zip (kos.map (·.2))).Perm (p :: rest) ∧ (((FA.putK kvv k y).map (·.2)).zip ((FA.putK kos k x).map (·.2))).Perm ((y, x) :: rest))
  | [], [], _ => ⟨rfl, .inl (.refl _)⟩
  | [], _ :: _, h => by simp at h
  | _ :: _, [], h => by simp at h
  | (k', o) :: r, (s, w) :: vr, h => by
    have e1 : s = k' := by simpa using (List.cons.inj h).1
    subst e1
    have h2 : vr.map (·.1) = r.map (·.1) := (List.cons.inj h).2
    unfold FA.putK
    cases hk : eqv s k with
    | true =>
      simp only [if_true]
      exact ⟨by simp [h2], .inr ⟨(w, o), _, .refl _, .refl _⟩⟩
    | false =>
      simp only [Bool.false_eq_true, if_false]
      obtain ⟨i1, i2⟩ := put_bag (k := k) (y := y) (x := x) h2
      refine ⟨by simp [i1], ?_⟩
      rcases i2 with i2 | ⟨p, rest, q1, q2⟩
      · exact .inl ((i2.cons _).trans (.swap _ _ _))
      · exact .inr ⟨p, (w, o) :: rest, (q1.cons _).trans (.swap _ _ _), (q2.cons _).trans (.swap _ _ _)⟩
/-- a dict whose first key is no tuple -/
theorem dic_leaf {a : Addr} {kvv : List (D × V)} (r : DicRep Γ F H a kvv) (h : ∀ p q, kvv = p :: q → isTupD p.1 = false) : ∃ kk, H a = some (.dK kk) ∧ Leaf kk kvv := by
  rcases r with ⟨kk, e, a1, a2, a3⟩ | ⟨⟨ys, e, a1, a2, a3⟩⟩
  · exact ⟨kk, e, a1, a2, a3⟩
  · exfalso
    cases ys with
    | nil => exact a3 rfl
    | cons y r =>
      have h1 := h _ _ (by rw [← a1, List.map_cons])
      have h2 := a2 y (List.mem_cons_self ..)
      cases hy : y.1 with
      | tup ds => simp only [hy] at h1; cases h1
      | _ => rw [hy] at h2; cases h2
theorem dic_leafR {a : Addr} {kvv : List (D × V)} (r : DicRd Γ F H a kvv) (h : ∀ p q, kvv = p :: q → isTupD p.1 = false) : ∃ kk, Rd H a (.dK kk) ∧ Leaf kk kvv := by
  rcases r with ⟨kk, e, a1, a2, a3⟩ | ⟨ys, e, a1, a2, a3⟩
  · exact ⟨kk, e, a1, a2, a3⟩
  · exfalso
    cases ys with
    | nil => exact a3 rfl
    | cons y r =>
      have h1 := h _ _ (by rw [← a1, List.map_cons])
      have h2 := a2 y (List.mem_cons_self ..)
      cases hy : y.1 with
      | tup ds => simp only [hy] at h1; cases h1
      | _ => rw [hy] at h2; cases h2
theorem head_leaf {α : Type} {kvs : List (D × α)} {k : D} (h : headOk kvs k = true) (hk : leafD k = true) : ∀ p q, kvs = p :: q → isTupD p.1 = false := by
  intro p q e
  subst e
  unfold headOk at h
  simp only [Bool.and_eq_true, beq_iff_eq] at h
  rw [h.2]
  cases k <;> first | rfl | cases hk
theorem head_map {α β : Type} {kvs : List (D × α)} {kos : List (D × β)} (h : kvs.map (·.1) = kos.map (·.1)) (hk : ∀ p q, kos = p :: q → isTupD p.1 = false) : ∀ p q, kvs = p :: q → isTupD p.1 = false := by
  intro p q e
  subst e
  cases kos with
  | nil => simp at h
  | cons x r =>
    have : p.1 = x.1 := (List.cons.inj h).1
    rw [this]; exact hk x r rfl
theorem RepFk.keys : ∀ {kvs : List (D × D)} {kvv : List (D × V)}, RepFk Γ F kvs kvv → kvv.map (·.1) = kvs.map (·.1) ∧ RepFs Γ F (kvs.map (·.2)) (kvv.map (·.2))
  | [], _, e => by rw [show _ = _ from e]; exact ⟨rfl, rfl⟩
  | (k, d) :: r, _, ⟨v, vr, e, h1, h2⟩ => by
    subst e
    obtain ⟨a, b⟩ := RepFk.keys h2
    exact ⟨by simp [a], v, _, rfl, h1, b⟩
theorem kOk_or {k : D} (h : kOk k = true) : leafD k = true ∨ (isTupD k = true ∧ nkN 8 k = true) := by
  unfold kOk at h
  simpa using h
theorem head_kOk {α : Type} {kvs : List (D × α)} {k : D} (h : headOk kvs k = true) : kOk k = true := by
  unfold headOk at h
  simp only [Bool.and_eq_true] at h
  exact h.1
theorem head_tup {α : Type} {kvs : List (D × α)} {k : D} (h : headOk kvs k = true) (hk : isTupD k = true) : ∀ p q, kvs = p :: q → isTupD p.1 = true := by
  intro p q e
  subst e
  unfold headOk at h
  simp only [Bool.and_eq_true, beq_iff_eq] at h
  rw [h.2]; exact hk
theorem head_mapT {α β : Type} {kvs : List (D × α)} {kos : List (D × β)} (h : kvs.map (·.1) = kos.map (·.1)) (hk : ∀ p q, kos = p :: q → isTupD p.1 = true) : ∀ p q, kvs = p :: q → isTupD p.1 = true := by
  intro p q e
  subst e
  cases kos with
  | nil => simp at h
  | cons x r =>
    have : p.1 = x.1 := (List.cons.inj h).1
    rw [this]; exact hk x r rfl
/-- a dict of tuples, or an empty one -/
theorem dic_keyed {P : Program} {w : World} (hO : Γ.Ob = ObT P w) {a : Addr} {kvv : List (D × V)} (r : DicRep Γ F H a kvv) (s : Sub F H) (h : ∀ p q, kvv = p :: q → isTupD p.1 = true) : ∃ ys, KeyedAt P w H a ys ∧ kvsX ys = kvv ∧ ∀ y ∈ ys, RepK F y.1 (.ref y.2.1) := by
  rcases r with ⟨kk, e, a1, a2, a3⟩ | ⟨⟨ys, e, a1, a2, a3⟩⟩
  · cases kvv with
    | nil =>
      cases kk with
      | nil => exact ⟨[], ⟨.inl ⟨rfl, e⟩, fun x hx => (nomatch hx)⟩, rfl, fun x hx => (nomatch hx)⟩
      | cons p q => simp at a1
    | cons p q =>
      have h1 := h p q rfl
      cases kk with
      | nil => simp at a1
      | cons x r =>
        have : some x.1 = keyOf p.1 := (List.cons.inj a1).1
        cases hp : p.1 with
        | tup ds => rw [hp] at this; cases this
        | _ => rw [hp] at h1; cases h1
  · rw [hO] at e
    exact ⟨ys, ⟨.inr e, fun y hy => RepK.mono s (a2 y hy)⟩, a1, a2⟩
variable {X : Cx} {W : WX} {a b : Expr} {pos p : Pos} {pa pb : Px} {ca cb : Ex} {kp : List Nat} {e k : Expr} {x : Str}
structure GetOk (X : Cx) (H : Hp) (a : Addr) (y v : V) : Prop where
  run : ∀ {pins : List (Addr × Obj)} {σ : L2.St} {s : Shared} {u : Value} {A : Around} {E : Value → Shared → Prop} {Q : Value → Shared → Prop}, A.units + 65 < cLine → Inv X pins σ H s → RelV y u →
    (∀ w' s', Inv X pins σ H s' → RelV v w' → Q w' s') → s.TypeIs (.ref a) "dict" ∧ wpAny (model X.prog X.w) A (getItem (.ref a) u) Q E s
structure InOk (X : Cx) (H : Hp) (a : Addr) (y : V) (o : Bool) : Prop where
  run : ∀ {pins : List (Addr × Obj)} {σ : L2.St} {s : Shared} {u : Value} {A : Around} {E : Value → Shared → Prop} {Q : Value → Shared → Prop}, A.units + 65 < cLine → Inv X pins σ H s → RelV y u →
    (∀ s', Inv X pins σ H s' → Q (.bool o) s') → wpAny (model X.prog X.w) A (compareOp .In u (.ref a)) Q E s
  runN : ∀ {pins : List (Addr × Obj)} {σ : L2.St} {s : Shared} {u : Value} {A : Around} {E : Value → Shared → Prop} {Q : Value → Shared → Prop}, A.units + 65 < cLine → Inv X pins σ H s → RelV y u →
    (∀ s', Inv X pins σ H s' → Q (.bool (!o)) s') → wpAny (model X.prog X.w) A (compareOp .NotIn u (.ref a)) Q E s
structure SetOk (X : Cx) (H : Hp) (a : Addr) (y v : V) (H' : Hp) : Prop where
  run : ∀ {pins : List (Addr × Obj)} {σ : L2.St} {s : Shared} {u r : Value} {A : Around} {E : Value → Shared → Prop} {Q : Unit → Shared → Prop}, A.units + 65 < cLine → Inv X pins σ H s → RelV y u → RelV v r →
    (∀ s', Inv X pins σ H' s' → Q () s') → wpAny (model X.prog X.w) A (setItem (.ref a) u r) Q E s
theorem GetOk.leaf {H : Hp} {a : Addr} {y v : V} (g : DGet H a y (some v)) : GetOk X H a y v := ⟨fun hu I ry h => ⟨dict_typeIs I g, d_getItem (by omega) I g ry h⟩⟩
theorem InOk.leaf {H : Hp} {a : Addr} {y : V} {o : Option V} (g : DGet H a y o) : InOk X H a y o.isSome := ⟨fun hu I ry h => d_in (by omega) I g ry h, fun hu I ry h => d_notIn (by omega) I g ry h⟩
theorem SetOk.leaf {H H' : Hp} {a : Addr} {y v : V} (g : DPut H a y v H') : SetOk X H a y v H' := ⟨fun hu I ry rv h => d_setItem (by omega) I g ry rv h⟩
section
variable {a : Addr} {b : Addr} {ys : List (D × Addr × V)} {k : D}
theorem GetOk.keyed (g : KeyedR X.prog X.w H a ys) (rk : RepK H k (.ref b)) (hk : nkN 8 k = true) (hv : FA.getK (kvsX ys) k = some v) : GetOk X H a (.ref b) v := ⟨fun hu I ry h => by
  cases ry
  exact ⟨keyed_type I g, kx_get hu I g rk hk hv h⟩⟩
theorem InOk.keyed (g : KeyedR X.prog X.w H a ys) (rk : RepK H k (.ref b)) (hk : nkN 8 k = true) : InOk X H a (.ref b) (FA.getK (kvsX ys) k).isSome := ⟨fun hu I ry h => by
  cases ry
  exact kx_in hu I g rk hk h, fun hu I ry h => by
  cases ry
  exact kx_notIn hu I g rk hk h⟩
theorem SetOk.keyed (g : KeyedAt X.prog X.w H a ys) (rk : RepK H k (.ref b)) (hk : nkN 8 k = true) (hl : ys.length < sizeLine) : SetOk X H a (.ref b) v (upd H a (.ext (ObT X.prog X.w a (putX ys k b v)))) := ⟨fun hu I ry rv h => by
  cases ry
  exact kx_set hu I g rk hk hl rv h⟩
end
/-- o[i] = v of a dict, by values -/
def rSetA (X : Cx) : TSet := fun o i v H Q => ∃ a H', o = .ref a ∧ SetOk X H a i v H' ∧ Q H'
theorem set_dictA (hu : X.A.units + 65 < cLine) : PSet X (rSetA X) := by
  intro pins s σ H o i v ov iv u Q I ro ri rv h
  obtain ⟨a, H', eo, g, q⟩ := h
  subst eo
  cases (show ov = Value.ref a from ro)
  exact g.run hu I ri rv fun s' I' => ⟨H', I', q⟩
/-- what a store makes of it -/
theorem dic_set (hO : Γ.Ob = ObT X.prog X.w) {α : Type} {kos : List (D × α)} {kvv : List (D × V)} {pp : Addr} {key : D} {v2 v1 : V} (dr : DicRep Γ F H pp kvv) (sub : Sub F H) (hm : kvv.map (·.1) = kos.map (·.1)) (hh : headOk kos key = true) (hl : kos.length < sizeLine) (r2 : RepF Γ F key v2) :
    ∃ ob, SetOk X H pp v2 v1 (upd H pp ob) ∧ DicRep Γ F (upd H pp ob) pp (FA.putK kvv key v1) := by
  rcases kOk_or (head_kOk hh) with kl | ⟨kt, k8⟩
  · obtain ⟨q, hq⟩ := key_of kl
    obtain ⟨lk, hp, lf⟩ := dic_leaf dr (head_map hm (head_leaf hh kl))
    have hz : lk.length < sizeLine := by
      have e1 : lk.length = kos.length := by
        have a1 := congrArg List.length lf.ks
        have a2 := congrArg List.length hm
        simp only [List.length_map] at a1 a2
        omega
      rw [e1]; exact hl
    have lf2 := leaf_put (y := v1) hq lf
    exact ⟨.dK (L2.putK lk q v1), .leaf (.inl ⟨lk, q, hp, key_kV hq (RepF.mono sub r2), hz, rfl⟩), .inl ⟨_, upd_same, lf2.ks, lf2.vs, lf2.nd⟩⟩
  · obtain ⟨ys, ka, e, kf⟩ := dic_keyed hO dr sub (head_mapT hm (head_tup hh kt))
    have rk := repK_of (nk_of 8 key k8).1 r2
    obtain ⟨b, rfl⟩ := rep_tup rk kt
    have hz : ys.length < sizeLine := by
      have a1 := congrArg List.length e
      have a2 := congrArg List.length hm
      simp only [List.length_map] at a1 a2
      omega
    refine ⟨.ext (ObT X.prog X.w pp (putX ys key b v1)), .keyed ka (RepK.mono sub rk) k8 hz, .inr ⟨⟨putX ys key b v1, by rw [upd_same, hO], ?_, fun y hy => ?_, putX_ne _ _ _ _⟩⟩⟩
    · have := kvs_putX key b v1 ys
      rw [e] at this
      exact this
    · rcases putX_mem key b v1 ys y hy with ⟨z, hz, e1, e2⟩ | ⟨e1, e2⟩
      · rw [← e1, ← e2]; exact kf z hz
      · rw [e1, e2]; exact rk
/-- name[k] = e -/
theorem ds_setD (i : Nat) {ck : Ex} {tpos : Pos} (hO : Γ.Ob = ObT X.prog X.w) (hu : X.A.units + 65 < cLine) (he : DenE X Γ W e ca) (hkk : DenE X Γ W k ck) (hN : X.N[i]? = some x := by rfl) (hv : Vis X.env.scope x := by first | exact Or.inl rfl | exact Or.inr (Or.inl rfl) | exact Or.inr (Or.inr rfl)) (hd : (x == ("__debug__" : Str)) = false := by decide)
    (hcd : (x == ("__classdict__" : Str)) = false := by decide)
    (ha : ∀ v, assign (.Subscript (.Name x p) k tpos) X.env v = (do
      let ov ← holding [v] (eval (.Name x p) X.env)
      let iv ← holding [v, ov] (eval k X.env)
      standAt tpos
      holding [v, ov, iv] (setItem ov iv v)
      release [v, ov, iv] []) := by intro _; rfl)
    (hs : swapsWithSole [.Subscript (.Name x p) k tpos] e pos.line X.env = pure false := by rfl) (hw : swappedStores [.Subscript (.Name x p) k tpos] e X.env = pure none := by rfl)
    (h1 : (assignEach [.Subscript (.Name x p) k tpos] X.env).map (·.2) = [assign (.Subscript (.Name x p) k tpos) X.env] := by rfl) :
    DenS X Γ W kp (.Assign [.Subscript (.Name x p) k tpos] e pos) (sSetD i ck ca) := by
  refine ps_imp (ps_asg he (pg_sub (pv i hN hv hd hcd) hkk (set_dictA hu) ha) hs hw h1) fun D σ H ⟨ρ, F, Fr, ts, g, m⟩ => ⟨ρ, F, Fr, ts, g, (FlowP.bind0 m).mono fun o1 ρ1 F1 H1 s1 m1 v1 g1 => ?_⟩
  split at m1
  case h_2 => exact False.elim m1
  rename_i kos0 hoo
  obtain ⟨ov, hov⟩ := g1.ok.get hoo
  have m2 : Post Γ W σ F1 Fr ts (fun f ρ' F' H' => f = .nx → GS Γ F' Fr H' σ ρ' ts → D.nx σ H') ((ck ρ1).bind fun k ρ => match ρ[i]? with
    | some (some (.dic kos)) => if headOk kos k.fr ∧ kos.length < line then (.ok Flow.nx (ρ.set i (some (.dic (FA.putK kos k.fr o1)))) : R Flow) else .st
    | _ => .st) := by
    cases hck : ck ρ1 with
    | st => rw [hck] at m1; exact m1
    | exc y ds ρ2 => rw [hck] at m1; exact fun c d F' H' s g => m1 c d σ F' H' Kept.refl s g
    | ok o2 ρ2 =>
      rw [hck] at m1
      have m1 : FlowP Γ W kp D σ F1 Fr ts (match ρ2[i]? with
        | some (some (.dic kos)) => if headOk kos o2.fr ∧ kos.length < line then (.ok Flow.nx (ρ2.set i (some (.dic (FA.putK kos o2.fr o1)))) : R Flow) else .st
        | _ => .st) := m1
      show Post Γ W σ F1 Fr ts _ (match ρ2[i]? with
        | some (some (.dic kos)) => if headOk kos o2.fr ∧ kos.length < line then (.ok Flow.nx (ρ2.set i (some (.dic (FA.putK kos o2.fr o1)))) : R Flow) else .st
        | _ => .st)
      split at m1
      · split at m1
        · rename_i hz
          rw [if_pos hz]
          exact fun F' H' s _ g => m1 σ F' H' Kept.refl s g
        · exact False.elim m1
      · exact False.elim m1
  refine ⟨ov, hov, ρ1, F1, Fr, _, g1, (Post.bind [(v1, o1)] m2).mono fun o2 ρ2 F2 H2 s2 m3 v2 g2 => ?_⟩
  split at m3
  case h_2 => exact False.elim m3
  rename_i kos ho
  split at m3
  case isFalse => exact False.elim m3
  rename_i hz
  obtain ⟨F3, s3, g2⟩ := g2.freeze
  generalize o2.fr = key at *
  obtain ⟨pp, kvv, rfl, dr, m4, g3⟩ := G.openD (g2.tail.takeAt ho hov).g
  obtain ⟨ob, so, dr2⟩ := dic_set (X := X) (v1 := v1) hO dr g2.sub m4 hz.1 (by rw [← line_eq]; exact hz.2) g2.fzF
  refine ⟨pp, upd H2 pp ob, rfl, so, ?_⟩
  refine m3 F3 _ s3 rfl ?_
  obtain ⟨b1, b2⟩ := put_bag (k := key) (y := v1) (x := o1) m4
  have g5 := G.write (u := ob) g3
  have g6 : G Γ F3 Fr (upd H2 pp ob) [pp] (((FA.putK kvv key v1).map (·.2)).zip ((FA.putK kos key o1).map (·.2)) ++ (ts ++ live σ (ρ2.set i none))) := by
    have g7 : G Γ F3 Fr (upd H2 pp ob) [pp] ((v1, o1) :: ((kvv.map (·.2)).zip (kos.map (·.2)) ++ (ts ++ live σ (ρ2.set i none)))) := g5.perm List.perm_middle
    rcases b2 with b2 | ⟨x, rest, b2, b3⟩
    · exact g7.perm (b2.symm.append_right _)
    · have g8 := g7.perm ((b2.append_right _).cons _)
      exact (G.tail (v := x.1) (o := x.2) (g8.perm (.swap _ _ _))).perm (b3.symm.append_right _)
  exact GS.putAt (v := .ref pp) ⟨g2.ok.hid i, G.closeD g6 dr2 b1⟩ ho hov
end
end FA
namespace FA
open PySem PyProof.Rows L2
section
variable {Γ : Wd} {X : Cx} {W : WX} {F F' Fr H H' : Hp} {e a b : Expr} {pos p : Pos} {ca cb : Ex} {pa pb : Px} {v : V}
theorem dic_new {L : List Addr} {xs : Bag} {p : Addr} (g : G Γ F Fr H L xs) (hp : H p = none) : G Γ F Fr (upd H p (.dK [])) L ((.ref p, .dic []) :: xs) :=
  G.closeD (kvv := []) (g.new hp) (.inl ⟨[], upd_same, rfl, rfl, List.nodup_nil⟩) rfl
theorem de_dic0 : DenE X Γ W (.Dict [] [] pos) eDic0 := pe_imp pe_dnewK fun σ H Q ⟨ρ, F, Fr, ts, g, m⟩ p hp => m F _ (Sub.refl _) (.ref p) ⟨g.ok, dic_new g.g hp⟩
end
end FA
namespace FA
open PySem PySem.W PySem.Calls PyProof.Rows PyProof.V PySem.Spec L2
abbrev ZObj (h : Heap) (z TI TO : Addr) (v : Value) (fl : Bool) : Prop := h.get? z = some { cls := .type "zip", dict := none, data := .fields #[v, .bool fl, .bool false, .ref TI, .ref TO], slots := #[] }
/-- no tuple of its own is out -/
def ZFree (h : Heap) (v : Value) : Prop := v = .none ∨ ∃ T : Addr, v = rawInt T ∧ h.get? T = none
section
variable {prog : Program} {w : World} {A : Around} {E : Value → Shared → Prop} {s : Shared} {z TI TO i1 i2 l1 l2 : Addr} {v : Value} {fl : Bool} {xs ys : Array Value} {k : Nat}
theorem gone_load {a : Addr} {Q : Option Obj → Shared → Prop} (e : s.heap.get? a = none) (q : Q none s) : wpAny (model prog w) A (loadIfAlive a) Q E s := by
  have q' : Q (s.heap.get? a) s := by rw [e]; exact q
  exact fun _ _ _ => q'
theorem zfree_true {Q : Bool → Shared → Prop} (zz : ZObj s.heap z TI TO v fl) (zf : ZFree s.heap v) (q : Q true s) : wpAny (model prog w) A (Builtin.SmallTypes.ownedTupleIsFree (.ref z)) Q E s := by
  unfold Builtin.SmallTypes.ownedTupleIsFree
  rcases zf with e | ⟨T, e, gone⟩
  · subst e
    exact wpAny_bind (wpAny_field zz rfl (x := .none) rfl (wpAny_pure q))
  · subst e
    refine wpAny_bind (wpAny_field zz rfl (x := rawInt T) rfl ?_)
    show wpAny _ _ (loadIfAlive (Int.toNat (T : Int)) >>= _) _ _ _
    rw [Int.toNat_natCast]
    exact wpAny_bind (gone_load gone (wpAny_pure q))
theorem zfree_end {a b : Value} {Q : Fin → Shared → Prop} (hh : A.handled = none) (D : ZipApart z TI TO i1 i2 l1 l2) (zz : ZObj s.heap z TI TO v fl) (zf : ZFree s.heap v) (pTI : IsPair s.heap TI (.ref i1) (.ref i2)) (pTO : IsPair s.heap TO a b)
    (j1 : s.heap.IsListIter i1 l1 k) (m1 : s.heap.IsList l1 xs) (hx : xs[k]? = none)
    (fin : ∀ g e, (∀ c o, zlWr z TO i1 i2 c → s.heap.get? c = some o → g.get? c = some o) → (∃ o, g.get? e = some o ∧ o.cls = .type "StopIteration") → E (.ref e) { s with heap := g }) :
    wpAny (model prog w) A (Builtin.«zip.__next__» ⟨[.ref z], []⟩) Q E s := by
  show wpAny _ _ (field (.ref z) 2 >>= _) _ _ _
  refine wpAny_bind (wpAny_field zz rfl (x := .bool false) rfl ?_)
  show wpAny _ _ (field (.ref z) 3 >>= _) _ _ _
  refine wpAny_bind (wpAny_field zz rfl (x := .ref TI) rfl (wpAny_bind (wpAny_seqItems pTI rfl ?_)))
  show wpAny _ _ (Builtin.SmallTypes.ownedTupleIsFree _ >>= _) _ _ _
  refine wpAny_bind (zfree_true zz zf ?_)
  simp only [if_true]
  refine wpAny_bind (wpAny_rule (wpAny_bind (wpAny_field zz rfl (x := .ref TO) rfl ?_)))
  refine wpAny_bind (wpAny_setField_rec zz (by simp) fun g1 z1 q1 => ?_)
  replace z1 : ZObj g1 z TI TO .ellipsis fl := z1
  refine wpAny_bind ?_
  simp only [List.zipIdx_cons, List.forIn_cons, List.zipIdx_nil, List.forIn_nil]
  refine wpAny_bind (wpAny_bind (wpAny_onRaise ?_))
  show wpAny _ _ (Builtin.SmallTypes.nextOf _ >>= _) _ _ _
  refine wpAny_bind (wpAny_nextOf_list_end hh (j1.extBut q1.extBut D.i1z) (m1.extBut q1.extBut D.l1z) hx fun g2 e q2 ee => ?_)
  obtain ⟨oe, e1, e2⟩ := ee
  have z2 : ZObj g2 z TI TO .ellipsis fl := q2 _ _ D.i1z.symm z1
  have ne : e ≠ z := fun c => by subst c; rw [z2] at e1; cases e1; simp at e2
  exact wpAny_setField_rec z2 (by simp) fun g3 _ q3 => fin g3 e (fun c o n t => q3.extBut _ _ n.1 (q2 _ _ n.2.2.1 (q1.extBut _ _ n.1 t))) ⟨oe, q3.extBut _ _ ne e1, e2⟩
/-- the zip's own things, i pairs drawn -/
structure ZQ (z TI TO i1 i2 l1 l2 : Addr) (i : Nat) (h : Heap) : Prop where
  ti : IsPair h TI (.ref i1) (.ref i2)
  to : ∃ a b, IsPair h TO a b
  j1 : h.IsListIter i1 l1 i
  j2 : h.IsListIter i2 l2 i
  zz : ZObj h z TI TO .none false ∨ ∃ (T : Addr) (fl : Bool), ZObj h z TI TO (rawInt T) fl
theorem ZQ.type {i : Nat} (x : ZQ z TI TO i1 i2 l1 l2 i s.heap) : s.TypeIs (.ref z) "zip" := by
  rcases x.zz with e | ⟨T, f, e⟩
  · exact ⟨_, e, rfl⟩
  · exact ⟨_, e, rfl⟩
variable {e : Addr}
end
end FA
namespace FA
open PySem PySem.W PySem.Calls PyProof.Rows PyProof.V PySem.Spec L2
section
variable {prog : Program} {w : World} {A : Around} {E : Value → Shared → Prop} {s : Shared} {z TI TO i1 i2 l1 l2 : Addr} {v : Value} {fl : Bool} {xs ys : Array Value} {k : Nat}
theorem ZQ.stop {i : Nat} {Q : Option Value → Shared → Prop} (hh : A.handled = none) (D : ZipApart z TI TO i1 i2 l1 l2) (st : ZQ z TI TO i1 i2 l1 l2 i s.heap) (m1 : s.heap.IsList l1 xs) (m2 : s.heap.IsList l2 ys) (hx : xs[i]? = none)
    (fin : ∀ g, (∀ c o, zlWr z TO i1 i2 c → s.heap.get? c = some o → g.get? c = some o) → Q none { s with heap := g }) :
    wpAny (model prog w) A (pyNext (.ref z)) Q E s := by
  have hT := st.type
  unfold pyNext
  refine wpAny_bind (wpAny_attempt (wpAny_callSpecial?_slot (name := Str.ofString "__next__") hT PySem.F.slot_zip_next (wpAny_call_entry PySem.F.slot_zip_next hT PySem.F.entry_zip_next ?_ (PySem.F.args_zip_next_1 _))))
  obtain ⟨ti, ⟨a, b, to⟩, j1, j2, zz⟩ := st
  rcases zz with e | ⟨T, f, e⟩
  · exact zfree_end hh D e (.inl rfl) ti to j1 m1 hx (fun g e' kp he => by obtain ⟨o, ho, hc⟩ := he; exact wpAny_bind (wpAny_isInstance (T := "StopIteration") (b := true) ⟨o, ho, hc⟩ isSubtype_stop (wpAny_pure (fin g kp))))
  · cases hg : s.heap.get? T with
    | none => exact zfree_end hh D e (.inr ⟨T, rfl, hg⟩) ti to j1 m1 hx (fun g e' kp he => by obtain ⟨o, ho, hc⟩ := he; exact wpAny_bind (wpAny_isInstance (T := "StopIteration") (b := true) ⟨o, ho, hc⟩ isSubtype_stop (wpAny_pure (fin g kp))))
    | some oT => exact zip_next_end_held hh D e hg ti j1 j2 m1 m2 (.inl hx) (fun g e' kp he => by obtain ⟨o, ho, hc⟩ := he; exact wpAny_bind (wpAny_isInstance (T := "StopIteration") (b := true) ⟨o, ho, hc⟩ isSubtype_stop (wpAny_pure (fin g fun c o n t => kp c o n.1 n.2.2.1 n.2.2.2 t))))
end
end FA
namespace FA
open PySem PySem.Spec PyProof.Rows L2 PySem.W PySem.Calls
/-- what is known of an error class whose errors are looked at -/
def ExcF (K : Frag) (x : String) : Prop := XfC K (He.ga K (Str.ofString x)) ∧ ∀ f ∈ fieldsOf x, findIn K (.ref (He.ga K (Str.ofString x))) (Str.ofString f) = some none
/-- an error in hand -/
structure InHand (Γ : Wd) (K : Frag) (i : Nat) (a : Addr) (cls : Value) (d : Option Addr) (σ : L2.St) (F : Hp) (x : String) (ds : List D) : Prop where
  at_ : σ[i]? = some (some (.ref a))
  ex : ExcAt Γ F x ds cls d
  f : ExcF K x
theorem InHand.up {Γ : Wd} {K : Frag} {i : Nat} {a : Addr} {cls : Value} {d : Option Addr} {σ : L2.St} {F F' : Hp} {x : String} {ds : List D} (h : InHand Γ K i a cls d σ F x ds) (s : Sub F F') : InHand Γ K i a cls d σ F' x ds :=
  ⟨h.at_, by
    obtain ⟨dd, fvs, e1, e2, e3, e4, e5⟩ := h.ex
    exact ⟨dd, fvs, e1, e2, s _ _ e3, e4, e5.mono s⟩, h.f⟩
end FA
namespace FA
open PySem PySem.Spec PyProof.Rows L2 PySem.W
/-- an error class: its name, its fields; its __init__'s name, qualified name, parameters, body, scope; the file -/
structure XcD where
  x : String
  qual : Str
  params : Arguments
  body : List Stmt
  scope : Scope
  file : Str
abbrev XcV : Type := Option (Str × Arguments × FuncBody × Scope × Addr × Addr)
def XcD.C (K : Frag) (d : XcD) : Addr := He.ga K (Str.ofString d.x)
def XcD.fa (K : Frag) (d : XcD) : Addr := He.ma K (d.C K) "__init__"
def XcD.obs (K : Frag) (d : XcD) : XcV := match K.lookup (d.fa K) with
  | some ⟨_, _, .func fd, _⟩ => some (fd.qualname, fd.params, fd.body, fd.scope, fd.globals, fd.builtins)
  | _ => none
def XcD.val (d : XcD) : XcV := some (d.qual, d.params, .stmts d.body, d.scope, mainGlobals, builtinsNs)
def exClsB (K : Frag) (C : Addr) : Bool := match K.lookup C with
  | some ⟨.type t, _, .cls cd, ⟨[_, _, _, _, some (.builtin n), _]⟩⟩ => (match cd.mro with
    | .ref C' :: bm => decide (t = "type") && (decide (C' = C) && (decide (n = "ValueError.__new__") && (cd.hasDict && (!cd.hasDel && PySem.HandSPX.refsVE bm))))
    | _ => false)
  | _ => false
def excCB (K : Frag) (D : Addr) : Bool := decide (findIn K (.ref D) "__getattribute__" = some (some (.builtin "BaseException.__getattribute__"))) && (decide (findIn K (.ref D) "__getattr__" = some none) && (decide (subIn K (.ref D) (.type "BaseException") = some true) && (hasDictIn K D && (decide (findIn K (.ref D) "__class__" = some (some (.builtin "object.__class__"))) && (decide (specialIn K (.builtin "object.__class__") "__get__" = some (some (.builtin "getset_descriptor.__get__"))) && (decide (takesIn K (.builtin "object.__class__") = some true) && decide (mroIn K D (.type "object") = some true)))))))
def XcD.fnB (K : Frag) (d : XcD) : Bool := match K.lookup (d.fa K) with
  | some ⟨_, _, .func fd, _⟩ => (match fd.closure, fd.code, fd.defaults with
    | [(y, cc)], .ref cda, .none => decide (y = "__class__") && (codeIn K (.ref cda) d.qual && ((match K.lookup cc with
      | some ⟨_, _, .cell (some (.ref D)), _⟩ => decide (D = d.C K)
      | _ => false) && (match K.lookup cda with
      | some ⟨_, _, .fields vs, _⟩ => (match (vs[2]? : Option Value) with
        | some (Value.str f _) => decide (f = d.file)
        | _ => false)
      | _ => false)))
    | _, _, _ => false)
  | _ => false
def XcD.ok (K : Frag) (d : XcD) : Bool :=
  He.eqO (nsIn K mainGlobals (Str.ofString d.x)) (some (some (.ref (d.C K)))) && (exClsB K (d.C K) && (He.eqO (findIn K (.ref (d.C K)) "__setattr__") (some (some (.builtin "object.__setattr__"))) && (decide (subIn K (.ref (d.C K)) (.type "BaseException") = some true) && (decide (typeIn K (.ref (d.C K)) = some (.type "type")) && (keepIn K (.ref (d.C K)) &&
  (He.eqO (findIn K (.ref (d.C K)) "__init__") (some (some (.ref (d.fa K)))) && (decide (typeIn K (.ref (d.fa K)) = some (.type "function")) && (d.fnB K && (decide (mroIn K (d.C K) (.ref (d.C K)) = some true) && (He.eqO (ks_superIn K (d.C K) (d.C K) "__init__") (some (some (.builtin "ValueError.__init__"))) &&
  (decide (subIn K (.ref (d.C K)) (.type "ValueError") = some true) && (He.eqO (nsIn K cStatics "thirdparty.any") (some none) && (((fieldsOf d.x).all fun f => He.eqO (findIn K (.ref (d.C K)) (Str.ofString f)) (some none)) && (xfB K (d.C K) && excCB K (d.C K)))))))))))))))
/-- a class by its name: the text's, a built-in one -/
inductive Cn where | own (x : String) | ty (n : String)
def Cn.v (K : Frag) : Cn → Value
  | .own x => .ref (He.ga K (Str.ofString x))
  | .ty n => .type n
/-- is an error of x taken by a clause for c? (e), is it of the class c? (k) -/
inductive Tk where | e (x : String) (c : Cn) (b : Bool) | k (x : String) (c : Cn) (b : Bool) | i (x : String)
def insB (K : Frag) (D : Addr) : Bool := decide (findIn K (.ref D) "__class__" = some (some (.builtin "object.__class__"))) && (decide (specialIn K (.builtin "object.__class__") "__get__" = some (some (.builtin "getset_descriptor.__get__"))) && (decide (takesIn K (.builtin "object.__class__") = some true) && (decide (mroIn K D (.type "object") = some true) && decide (kitOne K (.ref D) (.ref D) = some true))))
def Tk.ok (K : Frag) : Tk → Bool
  | .e x c b => decide (exmOne K (.ref (He.ga K (Str.ofString x))) (c.v K) = some b)
  | .k x c b => decide (kitOne K (.ref (He.ga K (Str.ofString x))) (c.v K) = some b)
  | .i x => insB K (He.ga K (Str.ofString x))
abbrev AlX : Type := He.AlD × Bool × List XcV
def obsX (fa : List He.Fa) (fn : List He.DefD) (xs : List XcD) (ks : List Tk) (K : Frag) : AlX := (He.obsD fa fn K, (xs.all fun d => d.ok K) && ks.all fun t => t.ok K, xs.map fun d => d.obs K)
def valX (fn : List He.DefD) (xs : List XcD) : AlX := (He.valD fn, true, xs.map XcD.val)
def SaysX (fa : List He.Fa) (fn : List He.DefD) (xs : List XcD) (ks : List Tk) (K : Frag) : Prop := obsX fa fn xs ks K = valX fn xs
section
variable {fa : List He.Fa} {fn : List He.DefD} {xs : List XcD} {ks : List Tk} {K : Frag}
theorem SaysX.d (c : SaysX fa fn xs ks K) : He.SaysD fa fn K := congrArg (fun z : AlX => z.1) c
theorem SaysX.b (c : SaysX fa fn xs ks K) : ((xs.all fun d => d.ok K) && ks.all fun t => t.ok K) = true := congrArg (fun z : AlX => z.2.1) c
theorem SaysX.cls (c : SaysX fa fn xs ks K) (i : Nat) {d : XcD} (h : xs[i]? = some d := by rfl) : d.obs K = d.val ∧ d.ok K = true := by
  have c1 := (He.ba c.b).1
  have e : xs.map (fun d => d.obs K) = xs.map XcD.val := congrArg (fun z : AlX => z.2.2) c
  have e2 : (xs.map fun d => d.obs K)[i]? = (xs.map XcD.val)[i]? := by rw [e]
  rw [List.getElem?_map, List.getElem?_map, h] at e2
  exact ⟨Option.some.inj e2, List.all_eq_true.mp c1 d (List.mem_of_getElem? h)⟩
end
end FA
namespace FA
open PySem PyProof.Rows L2
section
variable {Γ : Wd} {F F' Fr H H' : Hp} {L : List Addr} {xs : Bag} {v : V}
/-- what stands below a list, an instance -/
def kidsH : HO → Option (List V)
  | .lst vs => some vs
  | .ins _ _ fvs => some (fvs.map (·.2))
  | _ => none
def PathV (H : Hp) : V → List Nat → V → Prop
  | v, [], w => v = w
  | v, n :: π, w => ∃ a ho vs u, v = .ref a ∧ H a = some ho ∧ kidsH ho = some vs ∧ vs[n]? = some u ∧ PathV H u π w
theorem PathV.snoc' {a : Addr} {ho : HO} {vs : List V} {n : Nat} {u : V} (ha : H a = some ho) (hk : kidsH ho = some vs) (hu : vs[n]? = some u) : ∀ {π : List Nat} {v : V}, PathV H v π (.ref a) → PathV H v (π ++ [n]) u
  | [], _, e => ⟨a, ho, vs, u, e, ha, hk, hu, rfl⟩
  | _ :: π, _, ⟨b, hb, ws, t, e1, e2, e3, e4, r⟩ => ⟨b, hb, ws, t, e1, e2, e3, e4, PathV.snoc' ha hk hu r⟩
theorem PathV.snoc {a : Addr} {vs : List V} {n : Nat} {u : V} (ha : H a = some (.lst vs)) (hu : vs[n]? = some u) {π : List Nat} {v : V} : PathV H v π (.ref a) → PathV H v (π ++ [n]) u := PathV.snoc' ha rfl hu
theorem PathV.mono (s : Sub H H') : ∀ {π : List Nat} {v w : V}, PathV H v π w → PathV H' v π w
  | [], _, _, e => e
  | _ :: π, _, _, ⟨b, hb, ws, t, e1, e2, e3, e4, r⟩ => ⟨b, hb, ws, t, e1, s _ _ e2, e3, e4, PathV.mono s r⟩
theorem set_map2 {α β : Type} {fs : List (α × β)} {n : Nat} {p : α × β} (h : fs[n]? = some p) (y : β) : (fs.set n (p.1, y)).map (·.1) = fs.map (·.1) ∧ (fs.set n (p.1, y)).map (·.2) = (fs.map (·.2)).set n y := by
  refine ⟨?_, by rw [List.map_set]⟩
  rw [List.map_set]
  have : (fs.map (·.1))[n]? = some p.1 := by rw [List.getElem?_map, h]; rfl
  exact set_get this
theorem subAt_snoc {n : Nat} {os : List O} {c : O} (hc : os[n]? = some c) : ∀ {π : List Nat} {o : O}, subAt π o = some (.lst os) → subAt (π ++ [n]) o = some c
  | [], o, e => by
    cases e
    show (os[n]?).bind (subAt []) = some c
    rw [hc]; rfl
  | m :: π, .lst os', e => by
    obtain ⟨c', h1, h2⟩ := Option.bind_eq_some_iff.mp (show (os'[m]?).bind (subAt π) = some (.lst os) from e)
    show (os'[m]?).bind (subAt (π ++ [n])) = some c
    rw [h1]
    exact subAt_snoc hc h2
  | m :: π, .ins _ fs', e => by
    obtain ⟨c', h1, h2⟩ := Option.bind_eq_some_iff.mp (show (fs'[m]?).bind (fun p => subAt π p.2) = some (.lst os) from e)
    show (fs'[m]?).bind (fun p => subAt (π ++ [n]) p.2) = some c
    rw [h1]
    exact subAt_snoc hc h2
  | _ :: _, .fz _, e => by cases e
  | _ :: _, .tup _, e => by cases e
  | _ :: _, .dic _, e => by cases e
theorem subAt_snocI {n : Nat} {cc : String} {fs : List (String × O)} {p : String × O} (hc : fs[n]? = some p) : ∀ {π : List Nat} {o : O}, subAt π o = some (.ins cc fs) → subAt (π ++ [n]) o = some p.2
  | [], o, e => by
    cases e
    show (fs[n]?).bind (fun p => subAt [] p.2) = some p.2
    rw [hc]; rfl
  | m :: π, .lst os', e => by
    obtain ⟨c', h1, h2⟩ := Option.bind_eq_some_iff.mp (show (os'[m]?).bind (subAt π) = some (.ins cc fs) from e)
    show (os'[m]?).bind (subAt (π ++ [n])) = some p.2
    rw [h1]
    exact subAt_snocI hc h2
  | m :: π, .ins _ fs', e => by
    obtain ⟨c', h1, h2⟩ := Option.bind_eq_some_iff.mp (show (fs'[m]?).bind (fun p => subAt π p.2) = some (.ins cc fs) from e)
    show (fs'[m]?).bind (fun p => subAt (π ++ [n]) p.2) = some p.2
    rw [h1]
    exact subAt_snocI hc h2
  | _ :: _, .fz _, e => by cases e
  | _ :: _, .tup _, e => by cases e
  | _ :: _, .dic _, e => by cases e
theorem G.looseFr : ∀ {Lp : List Addr}, G Γ F Fr H (Lp ++ L) xs → G Γ F (jn Fr H Lp) H L xs ∧ (∀ a ∈ Lp, Fr a = none ∧ F a = none ∧ ∃ u, H a = some u) ∧ Lp.Nodup := by
  intro Lp g
  obtain ⟨sb, fr, off, fp, nd, al, r⟩ := g
  have nd1 := List.nodup_append.mp nd
  have nd2 := List.nodup_append.mp nd1.2.1
  have hLp : ∀ a ∈ Lp, F a = none ∧ Fr a = none ∧ ∃ u, H a = some u := fun a ha => al a (by simp [ha])
  refine ⟨⟨sb, fun a u e => ?_, fun a u e => ?_, fp, ?_, fun x hx => ?_, r⟩, fun a ha => ⟨(hLp a ha).2.1, (hLp a ha).1, (hLp a ha).2.2⟩, nd2.1⟩
  · by_cases h : a ∈ Lp
    · rw [jn_in h] at e; exact e
    · rw [jn_out h] at e; exact fr a u e
  · by_cases h : a ∈ Lp
    · rw [(hLp a h).1] at e; cases e
    · rw [jn_out h]; exact off a u e
  · exact List.nodup_append.mpr ⟨nd1.1, nd2.2.1, fun a ha b hb => nd1.2.2 a ha b (List.mem_append_right _ hb)⟩
  · have hx1 : x ∉ Lp := by
      rcases List.mem_append.mp hx with hx | hx
      · exact fun h => nd1.2.2 x hx x (List.mem_append_left _ h) rfl
      · exact fun h => nd2.2.2 x h x hx rfl
    rw [jn_out hx1]
    refine al x ?_
    rcases List.mem_append.mp hx with hx | hx
    · exact List.mem_append_left _ hx
    · exact List.mem_append_right _ (List.mem_append_right _ hx)
theorem G.lessFr {Lp : List Addr} {H0 : Hp} (g : G Γ F (jn Fr H0 Lp) H L xs) (nf : ∀ a ∈ Lp, Fr a = none) : G Γ F Fr H L xs := by
  obtain ⟨sb, fr, off, fp, nd, al, r⟩ := g
  have key : ∀ a, jn Fr H0 Lp a = none → Fr a = none := fun a e => by
    by_cases h : a ∈ Lp
    · exact nf a h
    · rw [jn_out h] at e; exact e
  refine ⟨sb, fun a u e => fr a u ?_, fun a u e => key a (off a u e), fp, nd, fun x hx => ⟨(al x hx).1, key x (al x hx).2.1, (al x hx).2.2⟩, r⟩
  have h : a ∉ Lp := fun h => by rw [nf a h] at e; cases e
  rw [jn_out h]; exact e
theorem G.frLoose {Lp : List Addr} {H0 : Hp} (g : G Γ F (jn Fr H0 Lp) H L xs) (nf : ∀ a ∈ Lp, Fr a = none ∧ ∃ u, H0 a = some u) (nd0 : Lp.Nodup) : G Γ F Fr H (Lp ++ L) xs ∧ ∀ a ∈ Lp, H a = H0 a := by
  have g0 := g.lessFr fun a ha => (nf a ha).1
  obtain ⟨sb, fr, off, fp, nd, al, r⟩ := g
  have hk : ∀ a ∈ Lp, H a = H0 a := fun a ha => by
    obtain ⟨u, hu⟩ := (nf a ha).2
    rw [hu]; exact fr a u (by rw [jn_in ha]; exact hu)
  have hd : ∀ a ∈ Lp, a ∉ fp ++ L := fun a ha hb => by
    have := (al a hb).2.1
    rw [jn_in ha] at this
    obtain ⟨w, hw⟩ := (nf a ha).2
    rw [hw] at this; cases this
  have ho : ∀ a ∈ Lp, F a = none := fun a ha => by
    cases e : F a with
    | none => rfl
    | some u =>
      have := off a u e
      rw [jn_in ha] at this
      obtain ⟨w, hw⟩ := (nf a ha).2
      rw [hw] at this; cases this
  have ndn := List.nodup_append.mp nd
  refine ⟨⟨g0.sub, g0.fr, g0.off, fp, ?_, fun x hx => ?_, r⟩, hk⟩
  · refine List.nodup_append.mpr ⟨ndn.1, List.nodup_append.mpr ⟨nd0, ndn.2.1, fun a ha b hb e => hd a ha (by rw [e]; exact List.mem_append_right _ hb)⟩, fun a ha b hb e => ?_⟩
    rcases List.mem_append.mp hb with hb | hb
    · exact hd b hb (by rw [← e]; exact List.mem_append_left _ ha)
    · exact ndn.2.2 a ha b hb e
  · by_cases h : x ∈ Lp
    · obtain ⟨u, hu⟩ := (nf x h).2
      exact ⟨ho x h, (nf x h).1, u, (hk x h).trans hu⟩
    · have hx' : x ∈ fp ++ L := by
        rcases List.mem_append.mp hx with hx | hx
        · exact List.mem_append_left _ hx
        · rcases List.mem_append.mp hx with hx | hx
          · exact absurd hx h
          · exact List.mem_append_right _ hx
      obtain ⟨a1, a2, a3⟩ := al x hx'
      rw [jn_out h] at a2
      exact ⟨a1, a2, a3⟩
theorem G.focus : ∀ {π : List Nat} {v w : V} {o c : O} {L : List Addr} {xs : Bag}, subAt π o = some c → PathV H v π w → G Γ F Fr H L ((v, o) :: xs) → ∃ Lp ys, G Γ F Fr H (Lp ++ L) ((w, c) :: (ys ++ xs)) ∧
    ∀ (F' Fr' H' : Hp) (L' : List Addr) (xs' : Bag) (c' : O), (∀ a ∈ Lp, H' a = H a) → G Γ F' Fr' H' (Lp ++ L') ((w, c') :: (ys ++ xs')) → G Γ F' Fr' H' L' ((v, putAt π o c') :: xs')
  | [], v, w, o, c, L, xs, e, p, g => by
    cases e
    have p : v = w := p
    subst p
    exact ⟨[], [], g, fun F' Fr' H' L' xs' c' _ g' => g'⟩
  | n :: π, v, w, .ins cc fs, c, L, xs, e, ⟨a, ho, vs, u, ev, ha, hk, hu, p⟩, g => by
    obtain ⟨p1, h1, h2⟩ := Option.bind_eq_some_iff.mp (show (fs[n]?).bind (fun p => subAt π p.2) = some c from e)
    obtain ⟨a', C, dx, fvs, ev', hct, ha', l1, l2, g1⟩ := g.openI
    have ea : a = a' := by rw [ev] at ev'; cases ev'; rfl
    subst ea
    rw [ha] at ha'
    cases ha'
    cases hk
    have hn : n < (fvs.map (·.2)).length := (List.getElem?_eq_some_iff.mp hu).1
    have l : (fvs.map (·.2)).length = (fs.map (·.2)).length := by
      have := congrArg List.length l1
      simpa using this
    have split : ∀ y : O, ((fvs.map (·.2)).zip ((fs.map (·.2)).set n y)).Perm ((u, y) :: ((fvs.map (·.2)).zip (fs.map (·.2))).eraseIdx n) := fun y => by
      obtain ⟨q, _, hq⟩ := zip_set (x := u) (y := y) l hn
      have : (fvs.map (·.2)).set n u = fvs.map (·.2) := set_get hu
      rwa [this] at hq
    have hf : (fs.map (·.2))[n]? = some p1.2 := by rw [List.getElem?_map, h1]; rfl
    have hos : (fs.map (·.2)).set n p1.2 = fs.map (·.2) := set_get hf
    have g2 : G Γ F Fr H (a :: L) ((u, p1.2) :: (((fvs.map (·.2)).zip (fs.map (·.2))).eraseIdx n ++ xs)) := g1.perm (by
      have := (split p1.2).append_right xs
      rwa [hos] at this)
    obtain ⟨Lp, ys, g3, back⟩ := G.focus h2 p g2
    refine ⟨Lp ++ [a], ys ++ ((fvs.map (·.2)).zip (fs.map (·.2))).eraseIdx n, by simpa using g3, fun F' Fr' H' L' xs' c' hk g' => ?_⟩
    have g4 := back F' Fr' H' (a :: L') (((fvs.map (·.2)).zip (fs.map (·.2))).eraseIdx n ++ xs') c' (fun b hb => hk b (by simp [hb])) (by simpa using g')
    have ha2 : H' a = some (.ins C dx fvs) := (hk a (by simp)).trans ha
    obtain ⟨m1, m2⟩ := set_map2 h1 (putAt π p1.2 c')
    have g5 : G Γ F' Fr' H' (a :: L') ((fvs.map (·.2)).zip ((fs.set n (p1.1, putAt π p1.2 c')).map (·.2)) ++ xs') := by
      rw [m2]
      exact g4.perm ((split (putAt π p1.2 c')).append_right xs').symm
    have k1 : fvs.map (·.1) = (fs.set n (p1.1, putAt π p1.2 c')).map (fun p => Str.ofString p.1) := by
      rw [l1]
      have := congrArg (List.map Str.ofString) m1
      rw [List.map_map, List.map_map] at this
      exact this.symm
    have k2 : ∀ p ∈ fs.set n (p1.1, putAt π p1.2 c'), p.1 ∈ attrsOf cc := fun p hp => by
      have hp1 : p.1 ∈ (fs.set n (p1.1, putAt π p1.2 c')).map (·.1) := List.mem_map_of_mem hp
      rw [m1] at hp1
      obtain ⟨q, hq, e⟩ := List.mem_map.mp hp1
      rw [← e]
      exact l2 q hq
    have := G.closeI g5 hct ha2 k1 k2
    rw [ev]
    show G Γ F' Fr' H' L' ((.ref a, (match fs[n]? with
      | some p => O.ins cc (fs.set n (p.1, putAt π p.2 c'))
      | none => O.ins cc fs)) :: xs')
    rw [h1]
    exact this
  | n :: π, v, w, .lst os, c, L, xs, e, ⟨a, ho, vs, u, ev, ha, hk, hu, p⟩, g => by
    obtain ⟨o1, h1, h2⟩ := Option.bind_eq_some_iff.mp (show (os[n]?).bind (subAt π) = some c from e)
    obtain ⟨a', vs', ev', ha', l, g1⟩ := g.openL
    have ea : a = a' := by rw [ev] at ev'; cases ev'; rfl
    subst ea
    rw [ha] at ha'
    cases ha'
    cases hk
    have hn : n < vs.length := (List.getElem?_eq_some_iff.mp hu).1
    have split : ∀ y : O, (vs.zip (os.set n y)).Perm ((u, y) :: (vs.zip os).eraseIdx n) := fun y => by
      obtain ⟨q, _, hq⟩ := zip_set (x := u) (y := y) l hn
      have : vs.set n u = vs := set_get hu
      rwa [this] at hq
    have hos : os.set n o1 = os := set_get h1
    have g2 : G Γ F Fr H (a :: L) ((u, o1) :: ((vs.zip os).eraseIdx n ++ xs)) := g1.perm (by
      have := (split o1).append_right xs
      rwa [hos] at this)
    obtain ⟨Lp, ys, g3, back⟩ := G.focus h2 p g2
    refine ⟨Lp ++ [a], ys ++ (vs.zip os).eraseIdx n, by simpa using g3, fun F' Fr' H' L' xs' c' hk g' => ?_⟩
    have g4 := back F' Fr' H' (a :: L') ((vs.zip os).eraseIdx n ++ xs') c' (fun b hb => hk b (by simp [hb])) (by simpa using g')
    have ha2 : H' a = some (.lst vs) := (hk a (by simp)).trans ha
    have g5 : G Γ F' Fr' H' (a :: L') (vs.zip (os.set n (putAt π o1 c')) ++ xs') := g4.perm ((split (putAt π o1 c')).append_right xs').symm
    have := G.closeL g5 ha2 (by simp [l])
    rw [ev]
    show G Γ F' Fr' H' L' ((.ref a, (match os[n]? with
      | some c => O.lst (os.set n (putAt π c c'))
      | none => O.lst os)) :: xs')
    rw [h1]
    exact this
  | _ :: _, _, _, .fz _, _, _, _, e, _, _ => by cases e
  | _ :: _, _, _, .tup _, _, _, _, e, _, _ => by cases e
  | _ :: _, _, _, .dic _, _, _, _, e, _, _ => by cases e
variable {X : Cx} {W : WX} {kp : List Nat} {e k : Expr} {pos p : Pos} {x : Str} {ca cb : Ex} {pb : Px} {σ : L2.St} {ρ ρ' : Env} {ts : Bag} {o : O}
theorem GS.hidI (i : Nat) (g : GS Γ F Fr H σ ρ ts) : GS Γ F Fr H σ (ρ.set i none) ts := by
  refine ⟨g.ok.hid i, ?_⟩
  rcases live_drop i g.ok with e | ⟨q, e⟩
  · rw [e]; exact g.g
  · exact G.tail (v := q.1) (o := q.2) ((g.g.perm (e.append_left ts)).perm List.perm_middle)
def tPth (Γ : Wd) (i : Nat) (l : Pth) : TE := fun σ H Q => ∃ ρ F Fr ts o π c, GS Γ F Fr H σ ρ ts ∧ ρ[i]? = some (some o) ∧ l ρ o = some (π, c) ∧ subAt π o = some c ∧ ∀ v w F' H', σ[i]? = some (some v) → Sub F F' → Sub H H' → GS Γ F' Fr H' σ ρ ts → PathV H' v π w → Q w H'
theorem pt_base (i : Nat) (hN : X.N[i]? = some x := by rfl) (hv : Vis X.env.scope x := by first | exact Or.inl rfl | exact Or.inr (Or.inl rfl) | exact Or.inr (Or.inr rfl)) (hd : (x == ("__debug__" : Str)) = false := by decide)
    (hcd : (x == ("__classdict__" : Str)) = false := by decide) : PE X (.Name x p) (tPth Γ i ptV) := pe_imp (pv i hN hv hd hcd) fun σ H Q ⟨ρ, F, Fr, ts, o, π, c, g, ho, hl, hs, k⟩ => by
  obtain ⟨v, hv⟩ := g.ok.get ho
  cases hl
  exact ⟨v, hv, k v v F H hv (Sub.refl _) (Sub.refl _) g rfl⟩
theorem pt_ix {i : Nat} {l : Pth} {a b : Expr} (ha : PE X a (tPth Γ i l)) (hb : DenP X Γ b pb) (hs : PlainIx b) (hp : ∀ ρ o π c, l ρ o = some (π, c) → subAt π o = some c) : PE X (.Subscript a b pos) (tPth Γ i (ptIx l pb)) := pe_imp (pe_ix ix_seq ha hb hs) fun σ H Q ⟨ρ, F, Fr, ts, o, π, c, g, ho, hl, hsub, k⟩ => by
  obtain ⟨⟨π0, c0⟩, h1, hl⟩ := Option.bind_eq_some_iff.mp (show ((l ρ o).bind fun r => match r.2 with
    | .lst os => (pb ρ).bind fun k => match k.fr with
      | .int i => (idx os.length i).bind fun n => (os[n]?).map fun c => (r.1 ++ [n], c)
      | _ => none
    | _ => none) = some (π, c) from hl)
  cases c0 with
  | lst os =>
    obtain ⟨kk, h2, hl⟩ := Option.bind_eq_some_iff.mp hl
    refine ⟨ρ, F, Fr, ts, o, π0, .lst os, g, ho, h1, hp _ _ _ _ h1, fun v w F1 H1 hv s1 t1 g1 pw => ⟨ρ, F1, Fr, ts, kk, g1, h2, fun v2 F2 H2 f2 s2 t2 g2 r2 => ?_⟩⟩
    have q2 := r2.view g2.sub
    generalize kk.fr = b' at *
    cases b' with
    | int j =>
      obtain ⟨n, hn, hl⟩ := Option.bind_eq_some_iff.mp hl
      obtain ⟨c', hc', e⟩ := Option.map_eq_some_iff.mp hl
      cases e
      have pw2 := pw.mono t2
      obtain ⟨Lp, ys, g3, _⟩ := G.focus (hp _ _ _ _ h1) pw2 (g2.takeAt ho hv).g
      obtain ⟨q, vs, ew, hq, len, g4⟩ := g3.openL
      subst ew
      obtain ⟨u, hu⟩ : ∃ u, vs[n]? = some u := by
        have := (List.getElem?_eq_some_iff.mp hc').1
        exact ⟨vs[n]'(by omega), List.getElem?_eq_getElem _⟩
      refine .inl ⟨q, vs, j, u, rfl, q2, .inl (.inl hq), atI_of (n := os.length) len.symm ?_, k v u F2 H2 hv (s1.trans s2) (t1.trans t2) g2 (pw2.snoc hq hu)⟩
      rw [hn]; exact hu
    | _ => cases hl
  | _ => cases hl
theorem ptV_sub : ∀ ρ o π c, ptV ρ o = some (π, c) → subAt π o = some c := fun ρ o π c h => by cases h; rfl
theorem ptIx_sub {l : Pth} {pb : Px} (hp : ∀ ρ o π c, l ρ o = some (π, c) → subAt π o = some c) : ∀ ρ o π c, ptIx l pb ρ o = some (π, c) → subAt π o = some c := fun ρ o π c hl => by
  obtain ⟨⟨π0, c0⟩, h1, hl⟩ := Option.bind_eq_some_iff.mp (show ((l ρ o).bind fun r => match r.2 with
    | .lst os => (pb ρ).bind fun k => match k.fr with
      | .int i => (idx os.length i).bind fun n => (os[n]?).map fun c => (r.1 ++ [n], c)
      | _ => none
    | _ => none) = some (π, c) from hl)
  cases c0 with
  | lst os =>
    obtain ⟨kk, h2, hl⟩ := Option.bind_eq_some_iff.mp hl
    generalize kk.fr = b' at *
    cases b' with
    | int j =>
      obtain ⟨n, hn, hl⟩ := Option.bind_eq_some_iff.mp hl
      obtain ⟨c', hc', e⟩ := Option.map_eq_some_iff.mp hl
      cases e
      exact subAt_snoc hc' (hp _ _ _ _ h1)
    | _ => cases hl
  | _ => cases hl
/-- name[..]..[k] = e -/
theorem ds_setP (i : Nat) {l : Pth} {b : Expr} {ck : Ex} {tpos : Pos} (he : DenE X Γ W e ca) (hb : PE X b (tPth Γ i l)) (hp : ∀ ρ o π c, l ρ o = some (π, c) → subAt π o = some c) (hkk : DenE X Γ W k ck)
    (ha : ∀ v, assign (.Subscript b k tpos) X.env v = (do
      let ov ← holding [v] (eval b X.env)
      let iv ← holding [v, ov] (eval k X.env)
      standAt tpos
      holding [v, ov, iv] (setItem ov iv v)
      release [v, ov, iv] []) := by intro _; rfl)
    (hs : swapsWithSole [.Subscript b k tpos] e pos.line X.env = pure false := by rfl) (hw : swappedStores [.Subscript b k tpos] e X.env = pure none := by rfl)
    (h1 : (assignEach [.Subscript b k tpos] X.env).map (·.2) = [assign (.Subscript b k tpos) X.env] := by rfl) :
    DenS X Γ W kp (.Assign [.Subscript b k tpos] e pos) (sSetP i l ck ca) := by
  refine ps_imp (ps_asg he (pg_sub hb hkk set_list ha) hs hw h1) fun D σ H ⟨ρ, F, Fr, ts, g, m⟩ => ⟨ρ, F, Fr, ts, g, (FlowP.bind0 m).mono fun o1 ρ1 F1 H1 s1 m1 v1 g1 => ?_⟩
  split at m1
  case h_2 => exact False.elim m1
  rename_i o ho
  split at m1
  case h_2 => exact False.elim m1
  rename_i π os hl
  refine ⟨ρ1, F1, Fr, _, o, π, .lst os, g1, ho, hl, hp _ _ _ _ hl, fun v w F2 H2 hv s2 t2 g2 pw => ?_⟩
  have g3 : G Γ F2 Fr H2 ([] : List Addr) ((v, o) :: ((v1, o1) :: ts ++ live σ (ρ1.set i none))) := (g2.takeAt ho hv).g
  obtain ⟨Lp, ys, g4, back⟩ := G.focus (hp _ _ _ _ hl) pw g3
  obtain ⟨g5, nf, ndp⟩ := G.looseFr g4
  have ok5 : SlotsOk σ (ρ1.set i none) := g2.ok.hid i
  refine ⟨ρ1.set i none, F2, jn Fr H2 Lp, (w, .lst os) :: (ys ++ (v1, o1) :: ts), ⟨ok5, by simpa using g5⟩, ?_⟩
  have m1 : FlowP Γ W kp D σ F1 Fr ts ((ck (ρ1.set i none)).bind fun kk ρ => match kk.fr with
      | .int j => match idx os.length j with
        | some n => (.ok .nx (ρ.set i (some (putAt π o (.lst (os.set n o1))))) : R Flow)
        | none => .st
      | _ => .st) := m1
  cases ek : ck (ρ1.set i none) with
  | st => rw [ek] at m1; exact m1
  | exc y ds ρ2 =>
    rw [ek] at m1
    intro cls dx F3 H3 s3 g6 ex
    refine m1 cls dx σ F3 H3 Kept.refl (s2.trans s3) ⟨g6.ok, ?_⟩ ex
    have g7 := G.lessFr g6.g fun a ha => (nf a ha).1
    have g8 : G Γ F3 Fr H3 [] (((w, .lst os) :: ys ++ [(v1, o1)]) ++ (ts ++ live σ ρ2)) := by simpa using g7
    exact g8.drop
  | ok kk ρ2 =>
    rw [ek] at m1
    have m1 : FlowP Γ W kp D σ F1 Fr ts (match kk.fr with
      | .int j => match idx os.length j with
        | some n => (.ok .nx (ρ2.set i (some (putAt π o (.lst (os.set n o1))))) : R Flow)
        | none => .st
      | _ => .st) := m1
    intro F3 H3 s3 v2 g6
    obtain ⟨F4, s4, g6⟩ := g6.freeze
    split at m1
    case h_2 => exact False.elim m1
    rename_i j hj
    rw [hj] at g6
    split at m1
    case h_2 => exact False.elim m1
    rename_i n hn
    have q2 := g6.fzF
    obtain ⟨g7, hk⟩ := G.frLoose (L := []) g6.tail.g (fun a ha => ⟨(nf a ha).1, (nf a ha).2.2⟩) ndp
    have g8 : G Γ F4 Fr H3 (Lp ++ []) ((w, .lst os) :: (ys ++ ((v1, o1) :: ts ++ live σ ρ2))) := by simpa using g7
    obtain ⟨q, vs, ew, hq, len, g9⟩ := g8.openL
    subst ew
    have hqn : q ∉ Lp := fun h => by
      obtain ⟨_, _, _, fp, nd, _, _⟩ := g9
      have := (List.nodup_append.mp nd).2.1
      exact (List.nodup_cons.mp this).1 (List.mem_append_left _ h)
    refine ⟨q, vs, j, n, rfl, q2, hq, by rw [len]; exact idx_ix hn, ?_⟩
    have hlt : n < vs.length := (ixN_seq (by rw [len]; exact idx_ix hn)).2.1
    obtain ⟨pp, z1, z2⟩ := zip_set (x := v1) (y := o1) len hlt
    have g10 := G.write (u := .lst (vs.set n v1)) g9
    have g11 : G Γ F4 Fr (upd H3 q (.lst (vs.set n v1))) (q :: (Lp ++ [])) ((vs.set n v1).zip (os.set n o1) ++ (ys ++ (ts ++ live σ ρ2))) := by
      have ga : G Γ F4 Fr (upd H3 q (.lst (vs.set n v1))) (q :: (Lp ++ [])) (pp :: ((v1, o1) :: ((vs.zip os).eraseIdx n ++ (ys ++ (ts ++ live σ ρ2))))) := g10.perm (by
        refine (z1.append_right _).trans (.cons pp ?_)
        refine List.Perm.trans ?_ (List.perm_middle (l₁ := (vs.zip os).eraseIdx n))
        exact List.Perm.append_left _ (List.perm_middle (l₁ := ys)))
      exact (G.tail (v := pp.1) (o := pp.2) ga).perm (z2.symm.append_right _)
    have g12 := G.closeL g11 upd_same (by simp [len])
    have g13 := back F4 Fr (upd H3 q (.lst (vs.set n v1))) [] (ts ++ live σ ρ2) (.lst (os.set n o1)) (fun a ha => (upd_ne (fun z : a = q => hqn (by rw [← z]; exact ha))).trans (hk a ha)) g12
    have gh : GS Γ F4 Fr (upd H3 q (.lst (vs.set n v1))) σ ρ2 ((v, putAt π o (.lst (os.set n o1))) :: ts) := ⟨g6.ok, g13⟩
    have hlen : i < ρ2.length := by
      rw [← g6.ok.len]
      exact (List.getElem?_eq_some_iff.mp hv).1
    exact m1 σ F4 _ Kept.refl (s2.trans (s3.trans s4)) ((gh.hidI i).put hlen hv)
/-- what is read at a place below a name -/
theorem de_rdP (i : Nat) {l : Pth} {b : Expr} (hb : PE X b (tPth Γ i l)) (hp : ∀ ρ o π c, l ρ o = some (π, c) → subAt π o = some c) : DenE X Γ W b (eRdP i l) := pe_imp hb fun σ H Q ⟨ρ, F, Fr, ts, g, m⟩ => by
  have m : Post Γ W σ F Fr ts (QE Γ σ Fr ts Q) (match ρ[i]? with
    | some (some o) => match l ρ o with
      | some (π, c) => (.ok (.fz c.fr) (ρ.set i (some (putAt π o (.fz c.fr)))) : R O)
      | none => .st
    | _ => .st) := m
  split at m
  case h_2 => exact False.elim m
  rename_i o ho
  split at m
  case h_2 => exact False.elim m
  rename_i π c hl
  refine ⟨ρ, F, Fr, ts, o, π, c, g, ho, hl, hp _ _ _ _ hl, fun v w F1 H1 hv s1 t1 g1 pw => ?_⟩
  have g2 : G Γ F1 Fr H1 ([] : List Addr) ((v, o) :: (ts ++ live σ (ρ.set i none))) := (g1.takeAt ho hv).g
  obtain ⟨Lp, ys, g3, back⟩ := G.focus (hp _ _ _ _ hl) pw g2
  obtain ⟨F2, s2, g4⟩ := G.freeze g3
  have rw' := g4.fzF
  have g5 := back F2 Fr H1 [] _ _ (fun _ _ => rfl) g4
  have g6 : GS Γ F2 Fr H1 σ (ρ.set i (some (putAt π o (.fz c.fr)))) ts := GS.putAt (v := v) ⟨g1.ok.hid i, g5⟩ ho hv
  exact m F2 H1 (s1.trans s2) w (g6.addF rw')
end
end FA
namespace FA
open PySem PyProof.Rows L2
section
variable {X : Cx} {Γ : Wd} {W : WX} {a b : Expr} {pos p pT : Pos} {ca cb : Ex}
/-- x += e, of whole numbers -/
theorem ds_augI (i : Nat) {kp : List Nat} {x : Str} {e : Expr} {ce : Ex} {p pos : Pos} (he : DenE X Γ W e ce) (hN : X.N.Nodup) (hi : X.N[i]? = some x := by rfl) (hx : Loc X.env.scope x := by first | exact Or.inl rfl | exact Or.inr rfl)
    (hf : X.fn x = true ∨ X.env.scope.names.lookup x = some .local := by first | exact .inl rfl | exact .inr rfl | assumption) (hk : i ∉ kp := by decide) : DenS X Γ W kp (.AugAssign (.Name x p) .Add e pos) (sSet (.nm i) (e2 opAddI (eP (pV i)) ce)) := by
  refine ps_imp (ps_aug hN hi hx he ip_add hf) fun D σ H ⟨ρ, F, Fr, ts, g, m⟩ => ?_
  have m1 := FlowP.bind0 m
  cases hr : eP (pV i) ρ with
  | st =>
    have : e2 opAddI (eP (pV i)) ce ρ = .st := by unfold e2; rw [hr]; rfl
    rw [this] at m1; exact False.elim m1
  | exc y ds ρ1 =>
    exfalso
    unfold eP at hr
    split at hr <;> cases hr
  | ok o ρ1 =>
    have hv : ∃ d, o = .fz d ∧ ρ1 = ρ ∧ ρ[i]? = some (some (.fz d)) := by
      unfold eP at hr
      split at hr
      · rename_i d hd
        cases hr
        refine ⟨d, rfl, rfl, ?_⟩
        unfold pV at hd
        split at hd
        · rename_i o ho; cases hd; exact ho
        · cases hd
      · cases hr
    obtain ⟨d, rfl, rfl, hd⟩ := hv
    have : e2 opAddI (eP (pV i)) ce ρ1 = (ce ρ1).bind fun y ρ => ofOpt (opAddI d y.fr) ρ := by unfold e2; rw [hr]; rfl
    rw [this] at m1
    obtain ⟨v, hσ, g'⟩ := g.take hd
    have rd := g'.fzF
    have hil : i < ρ1.length := (List.getElem?_eq_some_iff.mp hd).1
    refine ⟨v, hσ, ρ1, F, Fr, ts, g, (Post.bind0 m1).monoE fun o2 ρ2 F2 H2 e2 s2 m2 v2 g2 => ?_⟩
    obtain ⟨a, ha, m3⟩ := Post.opt m2
    have r2 := g2.view
    have key : ∃ i1 i2, d = .int i1 ∧ o2.fr = .int i2 ∧ a = intO (i1 + i2) := by
      revert ha
      cases d <;> cases o2.fr <;> intro ha <;> first | (cases ha; exact ⟨_, _, rfl, rfl, rfl⟩) | cases ha
    obtain ⟨i1, i2, rfl, h2, rfl⟩ := key
    rw [h2] at r2
    refine ⟨i1, i2, rd, r2, ?_⟩
    have m4 := m3 F2 H2 (Sub.refl _)
    rw [show asgn (.nm i) (intO (i1 + i2)) ρ2 = if i < ρ2.length then some (ρ2.set i (some (intO (i1 + i2)))) else none from by rw [asgn]] at m4
    by_cases hl : i < ρ2.length
    · rw [if_pos hl] at m4
      refine m4 _ F2 H2 (fun j hj => ?_) (Sub.refl _) ((GS.addF (v := .int (i1 + i2)) (d := .int (i1 + i2)) g2.tail rfl).store hl)
      have : j ≠ i := fun z => hk (z ▸ hj)
      rw [List.getElem?_set_ne this.symm]
    · rw [if_neg hl] at m4
      exact False.elim m4
end
end FA
namespace FA
open PySem PySem.Spec L2 PySem.W
section
variable {X : Cx} {Γ : Wd}
theorem each_vals : ∀ {bs : List (D × V)} {us : List Value}, Vals (bs.map (·.2)) us → EachIs (fun u (b : D × V) => RelV b.2 u) us bs
  | [], _, h => by cases h; exact .nil
  | b :: r, _, h => by
    cases h with
    | cons h1 h2 => exact .cons h1 (each_vals h2)
theorem vals_each : ∀ {bs : List (D × V)} {us : List Value}, EachIs (fun u (b : D × V) => RelV b.2 u) us bs → Vals (bs.map (·.2)) us
  | _, _, .nil => .nil
  | _, _, .cons h1 h2 => .cons h1 (vals_each h2)
theorem each_imp {α β : Type} {R S : α → β → Prop} : ∀ {as : List α} {bs : List β}, EachIs R as bs → (∀ a b, b ∈ bs → R a b → S a b) → EachIs S as bs
  | _, _, .nil, _ => .nil
  | _, _, .cons h1 h2, k => .cons (k _ _ (List.mem_cons_self ..) h1) (each_imp h2 fun a b hb => k a b (List.mem_cons_of_mem _ hb))
def encP (b : D × V) : PyData := pyD b.1
def rSortD (K : PySem.W.Frag) : List V → Hp → VK → Prop := fun vs H Q => ∃ (a : Addr) (bs : List (D × V)), vs = [V.ref a] ∧ SqL K H a (bs.map (·.2)) ∧ (∀ b ∈ bs, Dp K H b.2 (pyD b.1)) ∧ AllAlike (bs.map encP) ∧ Sortable (bs.map encP) ∧ (∀ b ∈ bs, (pyD b.1).depth ≤ 64) ∧
  ∀ p, H p = none → Q (.ref p) (upd H p (.lst ((bs.mergeSort (dataLe false encP)).map (·.2))))
theorem cr_sortD (hu : X.A.units + 70 < cLine) : CallR X (.builtin "sorted") (rSortD X.K) := by
  intro pins s σ H vs us Q I r h
  obtain ⟨a, bs, rfl, hs, hd, hal, hk, hdp, q⟩ := h
  obtain ⟨its, rv, hl, hz⟩ := I.list hs
  obtain ⟨u, rfl, ru⟩ := vals1 r
  obtain rfl : u = Value.ref a := ru
  have e := each_vals rv
  refine sorted_data (β := D × V) (bs := bs) (enc := encP) (R := fun u (b : D × V) => RelV b.2 u) hl.isList e (each_imp e fun v b hb hv => Dp.reads I _ _ _ (hd b hb) hv) hal hk (by simpa using hz) (fun b hb => by have := hdp b hb; show _ + (pyD b.1).depth < _; omega) fun out ho he => ?_
  refine ⟨.ref (s.heap.objs.size + 1 : Nat), upd H (s.heap.objs.size + 1 : Nat) (.lst ((bs.mergeSort (dataLe false encP)).map (·.2))), I.laid (t' := s.toks) (fun b o t => PyProof.Rows.sortedAll_old t) (Nat.le_succ _) ⟨?_, out, ?_⟩, rfl, q _ (I.hok.fresh (Nat.le_succ _))⟩
  · simpa using hz
  · obtain ⟨n, hn⟩ := PyProof.Rows.sortedAll_at s.heap its out.toArray
    exact ⟨n, vals_each he, hn⟩
theorem repFs_zip : ∀ {ds : List D} {vs : List V} {F : Hp}, RepFs Γ F ds vs → (ds.zip vs).map (·.1) = ds ∧ (ds.zip vs).map (·.2) = vs ∧ ∀ b ∈ ds.zip vs, RepF Γ F b.1 b.2
  | [], _, F, r => by cases r; exact ⟨rfl, rfl, fun b h => by cases h⟩
  | d :: ds, _, F, ⟨v, vr, e, r, rs⟩ => by
    subst e
    obtain ⟨h1, h2, h3⟩ := repFs_zip rs
    refine ⟨by simp [h1], by simp [h2], fun b hb => ?_⟩
    rcases List.mem_cons.mp hb with rfl | hb
    · exact r
    · exact h3 b hb
theorem repFs_of : ∀ {bs : List (D × V)} {F : Hp}, (∀ b ∈ bs, RepF Γ F b.1 b.2) → RepFs Γ F (bs.map (·.1)) (bs.map (·.2))
  | [], F, _ => rfl
  | b :: r, F, h => ⟨b.2, r.map (·.2), rfl, h b (List.mem_cons_self ..), repFs_of fun c hc => h c (List.mem_cons_of_mem _ hc)⟩
theorem c_sorted (hu : X.A.units + 70 < cLine) : Op1C X Γ (.builtin "sorted") opSortM := by
  refine ⟨_, cr_sortD hu, fun {F Fr H L its v1 o1 o Q} g e k => ?_⟩
  obtain ⟨F1, s1, g1, r⟩ := G.freeze1 g
  generalize o1.fr = d at *
  cases d with
  | lst ds =>
    simp only [opSortM] at e
    split at e
    · rename_i hc
      cases e
      simp only [Bool.and_eq_true, Bool.or_eq_true, decide_eq_true_eq] at hc
      obtain ⟨⟨⟨hp, hal⟩, hk⟩, hl⟩ := hc
      have hp' : ∀ d ∈ ds, plain d = true := List.all_eq_true.mp hp
      have hal' : ∀ a ∈ ds, ∀ b ∈ ds, alikeD a b = true := fun a ha b hb => List.all_eq_true.mp (List.all_eq_true.mp hal a ha) b hb
      obtain ⟨a, vs, rfl, ea, q⟩ := r
      obtain ⟨z1, z2, z3⟩ := repFs_zip q
      have mem1 : ∀ b ∈ ds.zip vs, b.1 ∈ ds := fun b hb => by
        have : b.1 ∈ (ds.zip vs).map (·.1) := List.mem_map.mpr ⟨b, hb, rfl⟩
        rw [z1] at this; exact this
      refine ⟨a, ds.zip vs, rfl, ?_, fun b hb => dp_of 60 (hp' _ (mem1 b hb)) (RepF.mono g1.sub (z3 b hb)), ?_, ?_, fun b hb => SeqAt.depth_of_shaped (shaped60 (hp' _ (mem1 b hb))), fun p hp2 => ?_⟩
      · rw [z2]; exact .inl (.inl (g1.sub _ _ ea))
      · intro x hx y hy
        obtain ⟨b, hb, rfl⟩ := List.mem_map.mp hx
        obtain ⟨c, hc, rfl⟩ := List.mem_map.mp hy
        exact alike_py (hal' _ (mem1 b hb) _ (mem1 c hc))
      · rcases hk with hk | hk
        · refine .inl fun x hx => ?_
          obtain ⟨b, hb, rfl⟩ := List.mem_map.mp hx
          have := List.all_eq_true.mp hk _ (mem1 b hb)
          unfold encP
          cases hd : b.1 with
          | tup l =>
            rw [hd] at this
            cases l with
            | nil => cases this
            | cons y l => exact ⟨pyD y, pyDs l, rfl⟩
          | _ => rw [hd] at this; cases this
        · refine .inr fun x hx => ?_
          obtain ⟨b, hb, rfl⟩ := List.mem_map.mp hx
          have := List.all_eq_true.mp hk _ (mem1 b hb)
          unfold encP
          cases hd : b.1 with
          | bl _ => exact ⟨(fun z => by cases z), (fun l z => by cases z)⟩
          | int _ => exact ⟨(fun z => by cases z), (fun l z => by cases z)⟩
          | str _ => exact ⟨(fun z => by cases z), (fun l z => by cases z)⟩
          | lst l => exact ⟨fun z => (by simp [pyD] at z), fun l z => (by simp [pyD] at z)⟩
          | _ => rw [hd] at this; cases this
      · have key : ((ds.zip vs).mergeSort (dataLe false encP)).map (·.1) = ds.mergeSort leB := by
          rw [List.map_mergeSort (s := leB) (f := Prod.fst) fun x hx y hy => ?_, z1]
          rw [dataLe_eq]
          show (!dataLt (pyD y.1) (pyD x.1)) = !ltB y.1 x.1
          rw [lt_py 60 (hp' _ (mem1 y hy)) (hp' _ (mem1 x hx)) (hal' _ (mem1 y hy) _ (mem1 x hx))]
        have rs := repFs_of (Γ := Γ) (F := F1) (bs := (ds.zip vs).mergeSort (dataLe false encP)) fun b hb => z3 b ((List.mergeSort_perm _ _).mem_iff.mp hb)
        rw [key] at rs
        exact k _ _ _ s1 (G.mkL g1 rs hp2)
    · cases e
  | _ => simp [opSortM] at e
end
theorem room70 {k : Nat} {A : Around} (hr : Room k A) : A.units + 70 < cLine := by have := hr.un; omega
end FA
namespace FA
open PySem PySem.Spec L2
section
variable {X : Cx} {Γ : Wd} {W : WX} {σ : St} {H : Hp}
theorem dcomp_ok {own : List Nat} {t : Tgt} {conds : Tx} {ck cv : Ex} : ∀ {xs : List D} {ρ : Env} {acc : List (D × O)} {y : String} {ds : List D} {ρ' : Env}, dcompL own t conds ck cv xs ρ acc ≠ .exc y ds ρ'
  | [], _, _, _, _, _, h => by cases h
  | x :: r, ρ, acc, y, ds, ρ', h => by
    unfold dcompL at h
    split at h
    · cases h
    · rename_i ρ1 _
      cases e : conds ρ1 with
      | ok b ρ2 =>
        rw [e] at h
        have h : (if b = true then (ck ρ2).ne.bind fun k ρ => (cv ρ).ne.bind fun v ρ => if (leafD k.fr && decide (acc.length < line)) = true then dcompL own t conds ck cv r ρ (putK acc k.fr v) else .st else dcompL own t conds ck cv r ρ2 acc) = _ := h
        split at h
        · cases e2 : ck ρ2 with
          | ok k ρ3 =>
            rw [e2] at h
            have h : (cv ρ3).ne.bind (fun v ρ => if (leafD k.fr && decide (acc.length < line)) = true then dcompL own t conds ck cv r ρ (putK acc k.fr v) else .st) = _ := h
            cases e3 : cv ρ3 with
            | ok v ρ4 =>
              rw [e3] at h
              have h : (if (leafD k.fr && decide (acc.length < line)) = true then dcompL own t conds ck cv r ρ4 (putK acc k.fr v) else .st) = _ := h
              split at h
              · exact dcomp_ok (xs := r) h
              · cases h
            | exc _ _ _ => rw [e3] at h; cases h
            | st => rw [e3] at h; cases h
          | exc _ _ _ => rw [e2] at h; cases h
          | st => rw [e2] at h; cases h
        · exact dcomp_ok (xs := r) h
      | exc _ _ _ => rw [e] at h; cases h
      | st => rw [e] at h; cases h
theorem wipe_eq {σ σ2 : St} (vs : List Nat) (hl : σ2.length = σ.length) (hout : ∀ j, j ∉ vs → σ2[j]? = σ[j]?) : wipe σ2 vs = wipe σ vs := by
  apply List.ext_getElem?
  intro j
  by_cases hj : j ∈ vs
  · have hw : ∀ (τ : St), τ.length = σ.length → (wipe τ vs)[j]? = if j < σ.length then some none else none := by
      intro τ hτ
      have : ∀ (us : List Nat), j ∈ us → (wipe τ us)[j]? = if j < σ.length then some none else none := by
        intro us
        induction us with
        | nil => intro z; cases z
        | cons u r ih =>
          intro z
          show ((wipe τ r).set u none)[j]? = _
          by_cases hu : u = j
          · subst hu
            by_cases hlj : u < σ.length
            · rw [if_pos hlj, List.getElem?_set_self (by rw [wipe_length, hτ]; exact hlj)]
            · rw [if_neg hlj, List.getElem?_eq_none_iff.mpr (by rw [List.length_set, wipe_length, hτ]; omega)]
          · rw [List.getElem?_set_ne hu]
            exact ih ((List.mem_cons.mp z).resolve_left (Ne.symm hu))
      exact this vs hj
    rw [hw σ2 hl, hw σ rfl]
  · rw [wipe_get vs σ2 j hj, wipe_get vs σ j hj, hout j hj]
theorem dcomp_imp {vs : List Nat} {it : Itx} {t : Tgt} {conds : Tx} {ck cv : Ex} (hnm : ∀ i ∈ t.names, i ∈ vs) {Q : VK} : tD Γ W (eDCompL vs t it conds ck cv) σ H Q → tDc (tDI Γ W it) (tDG Γ t) (tDT Γ W0 conds) (tD Γ W0 ck) (tD Γ W0 cv) vs σ H Q := by
  refine fun ⟨ρ, F, Fr, ts, g, m⟩ => ⟨ρ, F, Fr, ts, g, (Post.bind0 m).mono fun xs ρ0 F1 H1 s1 m1 J g1 wk D hD => ?_⟩
  split at m1
  · exact False.elim m1
  rename_i hof
  have hof : ownFree vs ρ0 = true := by simpa using hof
  have saved : ∀ i ∈ vs, ∀ o, ρ0[i]? = some (some o) → ∃ d v, o = .fz d ∧ σ[i]? = some (some v) ∧ RepF Γ F1 d v := fun i hi o e => by
    have := List.all_eq_true.mp hof i hi
    rw [e] at this
    cases o with
    | fz d =>
      obtain ⟨v, hv, g'⟩ := g1.take e
      exact ⟨d, v, rfl, hv, g'.fzF⟩
    | _ => simp at this
  cases ec : dcompL vs t conds ck cv xs ρ0 [] with
  | st => rw [ec] at m1; exact False.elim m1
  | exc y ds ρ1 => exact absurd ec dcomp_ok
  | ok accF ρF =>
    rw [ec] at m1
    have hFrD : Fr D = none := by
      cases e : Fr D with
      | none => rfl
      | some w => have := g1.g.fr D w e; rw [hD] at this; cases this
    let At : Nat → Hp → Prop := fun i H3 => i ≤ xs.length ∧ ∃ (ρi : Env) (acc : List (FA.D × O)) (kk : List (Key × V)) (kvv : List (FA.D × V)) (F' : Hp), Sub F1 F' ∧ Leaf kk kvv ∧ kvv.map (·.1) = acc.map (·.1) ∧
      GS Γ F' (upd Fr D (.dK kk)) H3 (wipe σ vs) (hide vs ρi) ((kvv.map (·.2)).zip (acc.map (·.2)) ++ ts) ∧ dcompL vs t conds ck cv (xs.drop i) ρi acc = .ok accF ρF
    refine ⟨fun i n H2 => n = xs.length - i ∧ At i H2, ⟨xs.length, rfl, Nat.zero_le _, ρ0, [], [], [], F1, Sub.refl _, ⟨rfl, rfl, List.nodup_nil⟩, rfl, ?_, ec⟩, ?_⟩
    · have g2 := (g1.wipes (σ := σ) vs rfl fun _ _ => rfl)
      exact ⟨g2.ok, (g2.g.new (u := .dK []) hD).toFrL upd_same⟩
    rintro i n H2 ⟨rfl, hi, ρi, acc, kk, kvv, F', sF, lf, hm, g2, ec2⟩
    by_cases hlt : i < xs.length
    · right
      refine ⟨wk.go i H2 (sF.trans g2.sub) hlt, At (i + 1), fun H3 q => ⟨xs.length - (i + 1), by omega, rfl, q⟩, fun x H3 hy => ?_⟩
      have hx : xs[i]? = some xs[i] := List.getElem?_eq_getElem hlt
      obtain ⟨F2, s2, g3⟩ := wk.yld i H2 x H3 F' _ [] _ xs[i] sF g2.g hx hy
      rw [List.drop_eq_getElem_cons hlt] at ec2
      unfold dcompL at ec2
      split at ec2
      · cases ec2
      rename_i ρa ha
      refine ⟨hide vs ρi, F2, _, (kvv.map (·.2)).zip (acc.map (·.2)) ++ ts, .fz xs[i], ρa, ⟨g2.ok, g3⟩, ha, fun σ2 hσ g4 => ?_⟩
      have hout : ∀ j, j ∉ vs → σ2[j]? = σ[j]? := fun j hj => (hσ.2 j fun z => hj (hnm j z)).trans (wipe_get vs σ j hj)
      have hσl : σ2.length = σ.length := by rw [hσ.1, wipe_length]
      refine ⟨wipe_eq vs hσl hout, ρa, F2, _, _, g4, ?_⟩
      cases e1 : conds ρa with
      | st => rw [e1] at ec2; cases ec2
      | exc _ _ _ => rw [e1] at ec2; cases ec2
      | ok b ρb =>
        rw [e1] at ec2
        have ec2 : (if b = true then (ck ρb).ne.bind fun k ρ => (cv ρ).ne.bind fun v ρ => if (leafD k.fr && decide (acc.length < line)) = true then dcompL vs t conds ck cv (xs.drop (i + 1)) ρ (putK acc k.fr v) else .st else dcompL vs t conds ck cv (xs.drop (i + 1)) ρb acc) = .ok accF ρF := ec2
        intro F3 H4 s3 g5
        cases b with
        | false =>
          rw [if_neg Bool.false_ne_true] at ec2 ⊢
          exact ⟨hlt, ρb, acc, kk, kvv, F3, (sF.trans s2).trans s3, lf, hm, g5.wipes vs hσl hout, ec2⟩
        | true =>
          rw [if_pos rfl] at ec2 ⊢
          cases e2 : ck ρb with
          | st => rw [e2] at ec2; cases ec2
          | exc _ _ _ => rw [e2] at ec2; cases ec2
          | ok ok ρc =>
            rw [e2] at ec2
            have ec3 : (cv ρc).ne.bind (fun v ρ => if (leafD ok.fr && decide (acc.length < line)) = true then dcompL vs t conds ck cv (xs.drop (i + 1)) ρ (putK acc ok.fr v) else .st) = .ok accF ρF := ec2
            cases e3 : cv ρc with
            | st => rw [e3] at ec3; cases ec3
            | exc _ _ _ => rw [e3] at ec3; cases ec3
            | ok ov ρd =>
              rw [e3] at ec3
              have ec4 : (if (leafD ok.fr && decide (acc.length < line)) = true then dcompL vs t conds ck cv (xs.drop (i + 1)) ρd (putK acc ok.fr ov) else .st) = .ok accF ρF := ec3
              split at ec4
              case isFalse => cases ec4
              rename_i hz
              obtain ⟨hleaf, hlen⟩ := Bool.and_eq_true_iff.mp hz
              have hlen := of_decide_eq_true hlen
              obtain ⟨q, hq⟩ := key_of hleaf
              refine ⟨ρb, F3, _, _, g5, ?_⟩
              rw [e2]
              intro F4 H5 s4 vk g6
              refine ⟨ρc, F4, _, _, g6, ?_⟩
              rw [e3]
              intro F5 H6 s5 vz g7
              obtain ⟨F6, s6, g8⟩ := (g7.perm (.swap _ _ _)).freeze
              have ek := key_kV hq g8.fzF
              have g9 := g8.tail
              have lkl : kk.length = acc.length := by
                have a1 := congrArg List.length lf.ks
                have a2 := congrArg List.length hm
                simp only [List.length_map] at a1 a2
                omega
              obtain ⟨b1, b2⟩ := put_bag (k := ok.fr) (y := vz) (x := ov) hm
              refine ⟨kk, q, ek, g9.g.fr D _ upd_same, by rw [lkl, ← line_eq]; exact hlen, hlt, ρd, putK acc ok.fr ov, L2.putK kk q vz, FA.putK kvv ok.fr vz, F6, ((((sF.trans s2).trans s3).trans s4).trans s5).trans s6, leaf_put hq lf, b1, ?_, ec4⟩
              have g10 := g9.wipes (σ := σ) vs hσl hout
              refine ⟨g10.ok, ?_⟩
              have g11 := G.frUpd (u' := .dK (L2.putK kk q vz)) g10.g
              rcases b2 with b2 | ⟨x, rest, b2, b3⟩
              · exact g11.perm (((b2.symm.append_right ts).append_right _))
              · have g12 := g11.perm ((((b2.append_right ts).cons _).append_right _))
                have g13 := G.tail (v := x.1) (o := x.2) (g12.perm (.swap _ _ _))
                exact g13.perm ((b3.symm.append_right ts).append_right _)
    · left
      have e : i = xs.length := by omega
      subst e
      rw [List.drop_length] at ec2
      cases ec2
      refine ⟨wk.stop _ H2 (sF.trans g2.sub) (Nat.le_refl _), ?_⟩
      obtain ⟨g3, hDa⟩ := G.ofFrL (by have := g2.g; rw [List.append_assoc] at this; exact this) hFrD
      have g4 : G Γ F' Fr H2 [] ((.ref D, .dic accF) :: (ts ++ live (wipe σ vs) (hide vs ρF))) := G.closeD g3 (.inl ⟨kk, hDa, lf.ks, lf.vs, lf.nd⟩) hm
      have g5 : GS Γ F' Fr H2 (wipe σ vs) (hide vs ρF) ((.ref D, .dic accF) :: ts) := ⟨g2.ok, g4⟩
      exact m1 F' H2 sF (.ref D) (g5.unhid vs fun j hj o e => by
        obtain ⟨d, v, a1, a2, a3⟩ := saved j hj o e
        exact ⟨d, v, a1, a2, RepF.mono sF a3⟩)
theorem de_dcomp {pos : Pos} (hc : X.calm = true) (hN : X.N.Nodup) {kx vx tg iter : Expr} {ifs : List Expr} {scope : Scope} {own : List (Str × Nat)} {it : Itx} {t : Tgt} {conds : Tx} {ck cv : Ex} (hi : DenI X Γ W tg iter it) (ok : BlkOk X.N X.env.scope scope own)
    (hg : ∀ (s : Shared) (H : Hp) (C : Addr) (cl : List (Str × Addr)) (fp : List Addr), DenG (X.blk s H scope (compEnvC scope cl C X.env) fp) Γ tg t) (ht : ∀ (s : Shared) (H : Hp) (C : Addr) (cl : List (Str × Addr)) (fp : List Addr), DenTs (X.blk s H scope (compEnvC scope cl C X.env) fp) Γ W0 ifs conds)
    (hk : ∀ (s : Shared) (H : Hp) (C : Addr) (cl : List (Str × Addr)) (fp : List Addr), DenE (X.blk s H scope (compEnvC scope cl C X.env) fp) Γ W0 kx ck)
    (he : ∀ (s : Shared) (H : Hp) (C : Addr) (cl : List (Str × Addr)) (fp : List Addr), DenE (X.blk s H scope (compEnvC scope cl C X.env) fp) Γ W0 vx cv) (hnm : ∀ i ∈ t.names, i ∈ own.map (·.2) := by decide) (hs : ∀ x, foldedSetIterable iter X.env x = pure x := by intro _; rfl) :
    DenE X Γ W (.DictComp kx vx [⟨tg, iter, ifs, 0⟩] scope pos) (eDCompL (own.map (·.2)) t it conds ck cv) :=
  pe_imp (pe_dc hc hN hi ok hg ht hk he hs) fun _ _ _ => dcomp_imp hnm
end
end FA
namespace FA
open PySem PySem.W PySem.Calls PyProof.Rows PyProof.V PySem.Spec L2
def Dk : HO → Prop
  | .dK _ => True
  | .ext _ => True
  | _ => False
/-- nothing about dicts -/
def NoDk : HO → Prop
  | .dK _ => False
  | .ext _ => False
  | .frz _ u => ¬ Dk u
  | _ => True
structure Al (F F' : Hp) : Prop where
  k : ∀ a o, F a = some o → NoDk o → F' a = some o
  d : ∀ a u, Dk u → Rd F a u → Rd F' a u
section
variable {Γ : Wd} {F F' H H' Fr : Hp} {L : List Addr} {xs : Bag}
mutual
theorem RepK.al (h : Al F F') : ∀ {d : D} {v : V}, RepK F d v → RepK F' d v
  | .non, _, r => r
  | .bl _, _, r => r
  | .int _, _, r => r
  | .str _, _, r => r
  | .tup _, _, ⟨a, vs, e, q, r⟩ => ⟨a, vs, e, h.k _ _ q True.intro, RepKs.al h r⟩
  | .lst _, _, r => r.elim
  | .dic _, _, r => r.elim
  | .ins _ _, _, r => r.elim
  | .scr _, _, r => r.elim
theorem RepKs.al (h : Al F F') : ∀ {ds : List D} {vs : List V}, RepKs F ds vs → RepKs F' ds vs
  | [], _, r => r
  | _ :: _, _, ⟨v, vr, e, r, s⟩ => ⟨v, vr, e, RepK.al h r, RepKs.al h s⟩
end
theorem DicRd.al {a : Addr} {kvs : List (D × V)} (h : Al F F') (r : DicRd Γ F F a kvs) : DicRd Γ F' F' a kvs := by
  rcases r with ⟨kk, e, x⟩ | ⟨ys, e, x, k⟩
  · exact .inl ⟨kk, h.d a _ True.intro e, x⟩
  · exact .inr ⟨ys, h.d a _ True.intro e, x, fun y hy => RepK.al h (k.1 y hy), k.2⟩
theorem SqL.al {K : PySem.W.Frag} {a : Addr} {vs : List V} (h : Al F F') (r : SqL K F a vs) : SqL K F' a vs := by
  rcases r with (e | ⟨o, e⟩) | e
  · exact .inl (.inl (h.k _ _ e True.intro))
  · exact .inl (.inr ⟨o, h.k _ _ e (fun z => z)⟩)
  · exact .inr e
mutual
theorem RepF.al (h : Al F F') : ∀ {d : D} {v : V}, RepF Γ F d v → RepF Γ F' d v
  | .non, _, r => r
  | .bl _, _, r => r
  | .int _, _, r => r
  | .str _, _, r => r
  | .lst _, _, ⟨a, vs, e, q, r⟩ => ⟨a, vs, e, h.k _ _ q True.intro, RepFs.al h r⟩
  | .tup _, _, ⟨a, vs, e, q, r⟩ => ⟨a, vs, e, h.k _ _ q True.intro, RepFs.al h r⟩
  | .dic _, _, ⟨a, k, e, q, r⟩ => ⟨a, k, e, DicRd.al h q, RepFk.al h r⟩
  | .ins _ _, _, ⟨a, C, dx, fvs, e, c, q, r⟩ => ⟨a, C, dx, fvs, e, c, h.k _ _ q True.intro, RepFf.al h r⟩
  | .scr _, _, ⟨a, e, q⟩ => ⟨a, e, SqL.al h q⟩
theorem RepFs.al (h : Al F F') : ∀ {ds : List D} {vs : List V}, RepFs Γ F ds vs → RepFs Γ F' ds vs
  | [], _, r => r
  | _ :: _, _, ⟨v, vr, e, r, s⟩ => ⟨v, vr, e, RepF.al h r, RepFs.al h s⟩
theorem RepFk.al (h : Al F F') : ∀ {ds : List (D × D)} {vs : List (D × V)}, RepFk Γ F ds vs → RepFk Γ F' ds vs
  | [], _, r => r
  | (_, _) :: _, _, ⟨v, vr, e, r, s⟩ => ⟨v, vr, e, RepF.al h r, RepFk.al h s⟩
theorem RepFf.al (h : Al F F') : ∀ {c : String} {ds : List (String × D)} {vs : List (Str × V)}, RepFf Γ F c ds vs → RepFf Γ F' c ds vs
  | _, [], _, r => r
  | _, (_, _) :: _, _, ⟨v, vr, e, c, r, s⟩ => ⟨v, vr, e, c, RepF.al h r, RepFf.al h s⟩
end
theorem DicRep.al {a : Addr} {kvs : List (D × V)} (h : Al F F') (e : H' a = H a) (r : DicRep Γ F H a kvs) : DicRep Γ F' H' a kvs := by
  rcases r with ⟨kk, q, x⟩ | ⟨⟨ys, q, x, k⟩⟩
  · exact .inl ⟨kk, e.trans q, x⟩
  · exact .inr ⟨ys, e.trans q, x, fun y hy => RepK.al h (k.1 y hy), k.2⟩
mutual
theorem RepO.al (h : Al F F') : ∀ {o : O} {v : V} {fp : List Addr}, (∀ a ∈ fp, H' a = H a) → RepO Γ F H o v fp → RepO Γ F' H' o v fp
  | .fz _, _, _, _, ⟨r, e⟩ => ⟨RepF.al h r, e⟩
  | .lst _, _, _, k, ⟨a, vs, f, e, q, ef, r⟩ => ⟨a, vs, f, e, (k a (by rw [ef]; exact .head _)).trans q, ef, RepOs.al h (fun b hb => k b (by rw [ef]; exact .tail _ hb)) r⟩
  | .tup _, _, _, k, ⟨a, vs, e, q, r⟩ => ⟨a, vs, e, h.k _ _ q True.intro, RepOs.al h k r⟩
  | .dic _, _, _, k, ⟨a, vs, f, e, q, ef, r⟩ => ⟨a, vs, f, e, DicRep.al h (k a (by rw [ef]; exact .head _)) q, ef, RepOk.al h (fun b hb => k b (by rw [ef]; exact .tail _ hb)) r⟩
  | .ins _ _, _, _, k, ⟨a, C, dx, fvs, f, e, c, q, ef, r⟩ => ⟨a, C, dx, fvs, f, e, c, (k a (by rw [ef]; exact .head _)).trans q, ef, RepOf.al h (fun b hb => k b (by rw [ef]; exact .tail _ hb)) r⟩
theorem RepOs.al (h : Al F F') : ∀ {os : List O} {vs : List V} {fp : List Addr}, (∀ a ∈ fp, H' a = H a) → RepOs Γ F H os vs fp → RepOs Γ F' H' os vs fp
  | [], _, _, _, r => r
  | _ :: _, _, _, k, ⟨v, vr, f1, f2, e, ef, r, s⟩ => ⟨v, vr, f1, f2, e, ef, RepO.al h (fun b hb => k b (by rw [ef]; exact List.mem_append_left _ hb)) r, RepOs.al h (fun b hb => k b (by rw [ef]; exact List.mem_append_right _ hb)) s⟩
theorem RepOk.al (h : Al F F') : ∀ {os : List (D × O)} {vs : List (D × V)} {fp : List Addr}, (∀ a ∈ fp, H' a = H a) → RepOk Γ F H os vs fp → RepOk Γ F' H' os vs fp
  | [], _, _, _, r => r
  | (_, _) :: _, _, _, k, ⟨v, vr, f1, f2, e, ef, r, s⟩ => ⟨v, vr, f1, f2, e, ef, RepO.al h (fun b hb => k b (by rw [ef]; exact List.mem_append_left _ hb)) r, RepOk.al h (fun b hb => k b (by rw [ef]; exact List.mem_append_right _ hb)) s⟩
theorem RepOf.al (h : Al F F') : ∀ {c : String} {os : List (String × O)} {vs : List (Str × V)} {fp : List Addr}, (∀ a ∈ fp, H' a = H a) → RepOf Γ F H c os vs fp → RepOf Γ F' H' c os vs fp
  | _, [], _, _, _, r => r
  | _, (_, _) :: _, _, _, k, ⟨v, vr, f1, f2, e, c, ef, r, s⟩ => ⟨v, vr, f1, f2, e, c, ef, RepO.al h (fun b hb => k b (by rw [ef]; exact List.mem_append_left _ hb)) r, RepOf.al h (fun b hb => k b (by rw [ef]; exact List.mem_append_right _ hb)) s⟩
end
theorem RepL.al (h : Al F F') : ∀ {xs : Bag} {fp : List Addr}, (∀ a ∈ fp, H' a = H a) → RepL Γ F H xs fp → RepL Γ F' H' xs fp
  | [], _, _, r => r
  | (_, _) :: _, _, k, ⟨f1, f2, ef, r, s⟩ => ⟨f1, f2, ef, RepO.al h (fun b hb => k b (by rw [ef]; exact List.mem_append_left _ hb)) r, RepL.al h (fun b hb => k b (by rw [ef]; exact List.mem_append_right _ hb)) s⟩
/-- another frozen part of the same extent -/
theorem G.al (h : Al F F') (dom : ∀ a, F a = none → F' a = none) (same : ∀ a, F a = none → H' a = H a) (sb : Sub F' H') (g : G Γ F Fr H L xs) : G Γ F' Fr H' L xs := by
  obtain ⟨_, fr, off, fp, nd, al, r⟩ := g
  have fn : ∀ a o, Fr a = some o → F a = none := fun a o e => by
    cases q : F a with
    | none => rfl
    | some u => rw [off a u q] at e; cases e
  refine ⟨sb, fun a o e => (same a (fn a o e)).trans (fr a o e), fun a u e => ?_, fp, nd, fun a ha => ?_, RepL.al h (fun a ha => same a (al a (List.mem_append_left _ ha)).1) r⟩
  · cases q : F a with
    | none => rw [dom a q] at e; cases e
    | some w => exact off a w q
  · obtain ⟨a1, a2, u, a3⟩ := al a ha
    exact ⟨dom a a1, a2, u, (same a a1).trans a3⟩
variable {d : Addr} {od : Obj} {u : HO}
theorem al_lock (hd : F d = some u) (dk : Dk u) : Al F (upd F d (.frz od u)) := by
  refine ⟨fun a o e n => ?_, fun a w dw r => ?_⟩
  · have : a ≠ d := fun z => by
      rw [z, hd] at e
      cases e
      cases u <;> first | exact n | exact dk
    rw [upd_ne this]; exact e
  · by_cases z : a = d
    · subst z
      rcases r with e | ⟨o, e⟩
      · rw [hd] at e; cases e; exact .inr ⟨od, upd_same⟩
      · rw [hd] at e; cases e; exact dk.elim
    · rcases r with e | ⟨o, e⟩
      · exact .inl (by rw [upd_ne z]; exact e)
      · exact .inr ⟨o, by rw [upd_ne z]; exact e⟩
end
def Itr (d : Addr) (od : Obj) (u : HO) (kv : List (V × V)) : It :=
  ⟨fun i H => H d = some (.frz od u) ∧ i < kv.length, fun i H x H' => ∃ T k v, kv[i]? = some (k, v) ∧ x = .ref T ∧ H T = none ∧ H' = upd H T (.tup [k, v]), fun i H => H d = some (.frz od u) ∧ kv.length ≤ i⟩
/-- the heap and its frozen part, a dict locked or not -/
inductive Lck (X : Cx) (F H : Hp) : Hp → Hp → Prop where
  | no : Lck X F H F H
  | yes {d : Addr} {od : Obj} {u : HO} : Dk u → F d = some u → (∀ o' u', X.H_0 d ≠ some (.frz o' u')) → Lck X F H (upd F d (.frz od u)) (upd H d (.frz od u))
section
variable {X : Cx} {Γ : Wd} {W : WX} {σ : L2.St} {F F1 F2 Fr H H1 H2 : Hp} {ts : Bag} {ρ : FA.Env} {kp : List Nat}
theorem Lck.al (l : Lck X F H F1 H1) : Al F F1 := by
  cases l with
  | no => exact ⟨fun _ _ e _ => e, fun _ _ _ r => r⟩
  | yes dk e _ => exact al_lock e dk
variable {e : Expr} {ce : Ex} {apos cpos tpos : Pos} {elts : List Expr} {kk : Nat} {tg : Expr}
end
end FA
namespace FA
open PySem PySem.W PySem.Calls PyProof.Rows PyProof.V PySem.Spec L2
section
variable {X : Cx} {Γ : Wd} {W : WX} {F Fr H : Hp} {a b : Addr} {k : FA.D} {xs : List (FA.D × Addr × V)} {y z v : V}
/-- a dict stands there -/
def IsDR (X : Cx) (H : Hp) (a : Addr) : Prop := (∃ kk : List (Key × V), Rd H a (.dK kk)) ∨ ∃ ys : List (FA.D × Addr × V), Rd H a (.ext (ObT X.prog X.w a ys))
theorem DicRd.is (hO : Γ.Ob = ObT X.prog X.w) {kvv : List (FA.D × V)} (dr : DicRd Γ F H a kvv) : IsDR X H a := by
  rcases dr with ⟨kk, e, _⟩ | ⟨ys, e, _⟩
  · exact .inl ⟨kk, e⟩
  · rw [hO] at e; exact .inr ⟨ys, e⟩
variable {o e f : Expr} {apos cpos : Pos} {td ty tx : TE}
variable {ck cx : Ex} {x : Str} {p : Pos}
end
end FA
namespace FA
open PySem L2 PyProof.Rows
theorem fnok_st {P : Program} {w : World} {K : PySem.W.Frag} {mg : Str → Option Value} {base : Heap} {CX : CXT} {k : Nat} {fa : Addr} {fd : FuncData} {ps : List Str} {Γ : Wd} {mask : List Bool} : FnOk P w K mg base CX k fa fd ps (spOf Γ (fun _ => .st) mask) :=
  ⟨fun vs H Q E h => by
    obtain ⟨_, _, _, _, _, _, _, z⟩ := h
    exact z.elim, fun A outer s H args us vs Q E _ _ _ _ h => by
    obtain ⟨_, _, _, _, _, _, _, z⟩ := h
    exact z.elim⟩
end FA
namespace FA
open PySem PyProof.Rows L2
section
variable {X : Cx} {Γ : Wd} {W : WX} {kp : List Nat} {e a b k : Expr} {pos p apos cpos tpos : Pos} {x : Str} {ca cb : Ex} {pb : Px} {F F' Fr H H' : Hp} {σ : L2.St} {ρ ρ' : Env} {ts : Bag} {v : V} {o : O}
theorem fld_at {f : String} : ∀ {fs : List (String × O)} {fvs : List (Str × V)} {n : Nat}, fvs.map (·.1) = fs.map (fun p => Str.ofString p.1) → fieldAt fs f = some n → ∃ u y, (fvs.map (·.2))[n]? = some u ∧ fvs.lookup (Str.ofString f) = some u ∧ fs[n]? = some (f, y)
  | [], _, _, _, h => by cases h
  | _ :: _, [], _, h, _ => by simp at h
  | (k, o) :: r, (s, w) :: vr, n, h, e => by
    have e1 : s = Str.ofString k := by simpa using (List.cons.inj h).1
    subst e1
    have h2 : vr.map (·.1) = r.map (fun p => Str.ofString p.1) := (List.cons.inj h).2
    unfold fieldAt at e
    split at e
    · rename_i hk
      cases e
      subst hk
      exact ⟨w, o, rfl, by simp [List.lookup], rfl⟩
    · rename_i hk
      obtain ⟨m, hm, rfl⟩ := Option.map_eq_some_iff.mp e
      obtain ⟨u, y, q1, q2, q3⟩ := fld_at h2 hm
      refine ⟨u, y, q1, ?_, q3⟩
      rw [List.lookup_cons]
      have : (Str.ofString f == Str.ofString k) = false := by
        rw [beq_eq_false_iff_ne]
        exact fun z => hk (ofString_inj z)
      rw [this]
      exact q2
theorem look_none {f : String} {c : String} : ∀ {fs : List (String × O)} {fvs : List (Str × V)}, fvs.map (·.1) = fs.map (fun p => Str.ofString p.1) → (∀ p ∈ fs, p.1 ∈ attrsOf c) → (attrsOf c).contains f = false → fvs.lookup (Str.ofString f) = none
  | [], [], _, _, _ => rfl
  | [], _ :: _, h, _, _ => by simp at h
  | _ :: _, [], h, _, _ => by simp at h
  | (k, o) :: r, (s, w) :: vr, h, hm, hn => by
    have e1 : s = Str.ofString k := by simpa using (List.cons.inj h).1
    subst e1
    rw [List.lookup_cons]
    have : (Str.ofString f == Str.ofString k) = false := by
      rw [beq_eq_false_iff_ne]
      intro z
      have := ofString_inj z
      subst this
      have := hm (f, o) (List.mem_cons_self ..)
      rw [List.contains_eq_mem] at hn
      exact absurd this (by simpa using hn)
    rw [this]
    exact look_none (List.cons.inj h).2 (fun p hp => hm p (List.mem_cons_of_mem _ hp)) hn
theorem ptFld_sub {l : Pth} {f : String} (hp : ∀ ρ o π c, l ρ o = some (π, c) → subAt π o = some c) : ∀ ρ o π c, ptFld l f ρ o = some (π, c) → subAt π o = some c := fun ρ o π c hl => by
  obtain ⟨⟨π0, c0⟩, h1, hl⟩ := Option.bind_eq_some_iff.mp (show ((l ρ o).bind fun r => match r.2 with
    | .ins _ fs => (fieldAt fs f).bind fun n => (fs[n]?).map fun p => (r.1 ++ [n], p.2)
    | _ => none) = some (π, c) from hl)
  cases c0 with
  | ins cc fs =>
    obtain ⟨n, hn, hl⟩ := Option.bind_eq_some_iff.mp hl
    obtain ⟨q, hq, e⟩ := Option.map_eq_some_iff.mp hl
    cases e
    exact subAt_snocI hq (hp _ _ _ _ h1)
  | _ => cases hl
theorem pt_fld {f : String} {i : Nat} {l : Pth} (hK : X.K = Γ.K) (hC : ClsOk Γ.K Γ.ct) (ha : PE X a (tPth Γ i l)) (hp : ∀ ρ o π c, l ρ o = some (π, c) → subAt π o = some c)
    (hb : attributeBase a (Str.ofString f) X.env (eval a X.env) = eval a X.env := by rfl) : PE X (.Attribute a (Str.ofString f) pos) (tPth Γ i (ptFld l f)) := pe_imp (pe_fld ha hb) fun σ H Q ⟨ρ, F, Fr, ts, o, π, c, g, ho, hl, hsub, k⟩ => by
  obtain ⟨⟨π0, c0⟩, h1, hl⟩ := Option.bind_eq_some_iff.mp (show ((l ρ o).bind fun r => match r.2 with
    | .ins _ fs => (fieldAt fs f).bind fun n => (fs[n]?).map fun p => (r.1 ++ [n], p.2)
    | _ => none) = some (π, c) from hl)
  cases c0 with
  | ins cc fs =>
    obtain ⟨n, hn, hl⟩ := Option.bind_eq_some_iff.mp hl
    obtain ⟨q0, hq0, e⟩ := Option.map_eq_some_iff.mp hl
    cases e
    refine ⟨ρ, F, Fr, ts, o, π0, .ins cc fs, g, ho, h1, hp _ _ _ _ h1, fun v w F1 H1 hv s1 t1 g1 pw => ?_⟩
    obtain ⟨Lp, ys, g3, _⟩ := G.focus (hp _ _ _ _ h1) pw (g1.takeAt ho hv).g
    obtain ⟨q, C, dx, fvs, ew, hc, hq, l1, l2, _⟩ := g3.openI
    subst ew
    obtain ⟨u, y, hu, hlk, hy⟩ := fld_at l1 hn
    rw [hK]
    exact ⟨q, C, dx, fvs, u, rfl, hq, hC.cls _ _ hc, hC.no _ _ _ hc (l2 (f, y) (List.mem_of_getElem? hy)), hlk, k v u F1 H1 hv s1 t1 g1 (pw.snoc' hq rfl hu)⟩
  | _ => cases hl
/-- place.append(e) -/
theorem ds_appP (i : Nat) {l : Pth} {b : Expr} (hb : PE X b (tPth Γ i l)) (hp : ∀ ρ o π c, l ρ o = some (π, c) → subAt π o = some c) (he : DenE X Γ W e ca)
    (hbase : attributeBase b "append" X.env (eval b X.env) = eval b X.env := by rfl)
    (hfew : ((backTo cpos (starEach [e] X.env)).all (fun x => !x.1) && (backToKw cpos (keywordEach [] X.env)).all (fun x => x.1.isSome)
      && decide ([e].length + ([] : List Keyword).length + (if ([] : List Keyword).isEmpty then 0 else 1) < 30)) = true := by rfl)
    (hline : (apos.endLine == cpos.line) = true := by rfl) (hs : starEach [e] X.env = (false, eval e X.env) :: starEach [] X.env := by rfl) (hplain : (backTo cpos (starEach [] X.env)).any (·.1) = false := by rfl)
    (hsw : swapsWith (.Call (.Attribute b "append" apos) [e] [] cpos) none pos.line X.env = pure false := by rfl) :
    DenS X Γ W kp (.Expr (.Call (.Attribute b "append" apos) [e] [] cpos) pos) (sAppP i l ca) := by
  refine ps_imp (ps_expr (pe_bm PySem.F.plainAttrs_list PySem.F.slot_list_append PySem.F.type_list_append mt_append hb (pa_cons he pa_nil hs) hbase hfew hline hs hplain) hsw) fun D σ H ⟨ρ, F, Fr, ts, g, m⟩ => ?_
  have m1 := unit_flow m
  unfold rAppP at m1
  split at m1
  case h_2 => exact False.elim m1
  rename_i o ho
  split at m1
  case h_2 => exact False.elim m1
  rename_i π os hl
  refine ⟨ρ, F, Fr, ts, o, π, .lst os, g, ho, hl, hp _ _ _ _ hl, fun v w F2 H2 hv s2 t2 g2 pw => ?_⟩
  have g3 : G Γ F2 Fr H2 ([] : List Addr) ((v, o) :: (ts ++ live σ (ρ.set i none))) := (g2.takeAt ho hv).g
  obtain ⟨Lp, ys, g4, back⟩ := G.focus (hp _ _ _ _ hl) pw g3
  obtain ⟨q, vs, ew, hq, len, _⟩ := g4.openL
  subst ew
  refine ⟨.inl ⟨rfl, vs, .inl (.inl hq)⟩, ?_⟩
  obtain ⟨g5, nf, ndp⟩ := G.looseFr g4
  have ok5 : SlotsOk σ (ρ.set i none) := g2.ok.hid i
  refine ⟨ρ.set i none, F2, jn Fr H2 Lp, (.ref q, .lst os) :: (ys ++ ts), ⟨ok5, by simpa using g5⟩, ?_⟩
  cases ek : ca (ρ.set i none) with
  | st => rw [ek] at m1; exact m1
  | exc y ds ρ2 =>
    rw [ek] at m1
    intro cls dx F3 H3 s3 g6 ex
    have hlen : i < ρ2.length := by
      rw [← g6.ok.len]
      exact (List.getElem?_eq_some_iff.mp hv).1
    obtain ⟨g7, hk⟩ := G.frLoose (L := []) g6.g (fun a ha => ⟨(nf a ha).1, (nf a ha).2.2⟩) ndp
    have g8 : G Γ F3 Fr H3 (Lp ++ []) ((V.ref q, .lst os) :: (ys ++ (ts ++ live σ ρ2))) := by simpa using g7
    have g9 := back F3 Fr H3 [] (ts ++ live σ ρ2) (.lst os) (fun a ha => hk a ha) g8
    have gh : GS Γ F3 Fr H3 σ ρ2 ((v, putAt π o (.lst os)) :: ts) := ⟨g6.ok, g9⟩
    exact m1 cls dx F3 H3 (s2.trans s3) ((gh.hidI i).put hlen hv) ex
  | ok kk ρ2 =>
    rw [ek] at m1
    have m1 : Post Γ W σ F Fr ts (fun _ ρ' F' H' => GS Γ F' Fr H' σ ρ' ts → D.nx σ H') (if os.length < line then (.ok () (ρ2.set i (some (putAt π o (.lst (os ++ [kk]))))) : R Unit) else .st) := m1
    split at m1
    case isFalse => exact False.elim m1
    rename_i hz
    intro F3 H3 s3 v2 g6
    obtain ⟨g7, hk⟩ := G.frLoose (L := []) g6.g (fun a ha => ⟨(nf a ha).1, (nf a ha).2.2⟩) ndp
    have g8 : G Γ F3 Fr H3 (Lp ++ []) ((V.ref q, .lst os) :: (ys ++ ((v2, kk) :: ts ++ live σ ρ2))) := by
      refine (show G Γ F3 Fr H3 (Lp ++ []) ((v2, kk) :: (((V.ref q, .lst os) :: (ys ++ ts)) ++ live σ ρ2)) from by simpa using g7).perm ?_
      have : ((v2, kk) :: (((V.ref q, O.lst os) :: (ys ++ ts)) ++ live σ ρ2)).Perm (((V.ref q, O.lst os) :: ys) ++ ((v2, kk) :: (ts ++ live σ ρ2))) := by
        have z := List.perm_middle (a := (v2, kk)) (l₁ := (V.ref q, O.lst os) :: ys) (l₂ := ts ++ live σ ρ2)
        simpa using z.symm
      simpa using this
    obtain ⟨q', vs', ew, hq', len', g9⟩ := g8.openL
    cases ew
    have hqn : q ∉ Lp := fun h => by
      obtain ⟨_, _, _, fp, nd, _, _⟩ := g9
      have := (List.nodup_append.mp nd).2.1
      exact (List.nodup_cons.mp this).1 (List.mem_append_left _ h)
    have g10 := G.write (u := .lst (vs' ++ [v2])) g9
    have g11 : G Γ F3 Fr (upd H3 q (.lst (vs' ++ [v2]))) (q :: (Lp ++ [])) ((vs' ++ [v2]).zip (os ++ [kk]) ++ (ys ++ (ts ++ live σ ρ2))) := by
      rw [zip_app len', List.append_assoc]
      refine g10.perm (List.Perm.append_left _ ?_)
      exact List.perm_middle (l₁ := ys)
    have g12 := G.closeL g11 upd_same (by simp [len'])
    have g13 := back F3 Fr (upd H3 q (.lst (vs' ++ [v2]))) [] (ts ++ live σ ρ2) (.lst (os ++ [kk])) (fun a ha => (upd_ne (fun z : a = q => hqn (by rw [← z]; exact ha))).trans (hk a ha)) g12
    have gh : GS Γ F3 Fr (upd H3 q (.lst (vs' ++ [v2]))) σ ρ2 ((v, putAt π o (.lst (os ++ [kk]))) :: ts) := ⟨g6.ok, g13⟩
    have hlen : i < ρ2.length := by
      rw [← g6.ok.len]
      exact (List.getElem?_eq_some_iff.mp hv).1
    exact ⟨q, vs', v2, rfl, rfl, hq', by rw [len']; exact hz, m1 F3 _ (s2.trans s3) ((gh.hidI i).put hlen hv)⟩
/-- place.pop() -/
theorem de_popP (i : Nat) {l : Pth} {b : Expr} (hb : PE X b (tPth Γ i l)) (hp : ∀ ρ o π c, l ρ o = some (π, c) → subAt π o = some c)
    (hbase : attributeBase b "pop" X.env (eval b X.env) = eval b X.env := by rfl) (hline : (apos.endLine == cpos.line) = true := by rfl) : DenE X Γ W (.Call (.Attribute b "pop" apos) [] [] cpos) (ePopP i l) := by
  refine pe_imp (pe_bm0 PySem.F.plainAttrs_list PySem.F.slot_list_pop PySem.F.type_list_pop mt_pop hb hbase hline) fun σ H Q ⟨ρ, F, Fr, ts, g, mm⟩ => ?_
  unfold ePopP at mm
  split at mm
  case h_2 => exact mm.elim
  rename_i o ho
  split at mm
  case h_2 => exact mm.elim
  rename_i π os hl
  split at mm
  case h_2 => exact mm.elim
  rename_i y hy
  refine ⟨ρ, F, Fr, ts, o, π, .lst os, g, ho, hl, hp _ _ _ _ hl, fun v w F2 H2 hv s2 t2 g2 pw => ?_⟩
  have g3 : G Γ F2 Fr H2 ([] : List Addr) ((v, o) :: (ts ++ live σ (ρ.set i none))) := (g2.takeAt ho hv).g
  obtain ⟨Lp, ys, g4, back⟩ := G.focus (hp _ _ _ _ hl) pw g3
  obtain ⟨q, vs, ew, hq, l, g5⟩ := g4.openL
  subst ew
  have ne : os ≠ [] := fun z => by rw [z] at hy; cases hy
  have nv : vs ≠ [] := fun z => by rw [z] at l; exact ne (List.eq_nil_of_length_eq_zero l.symm)
  have eo : os = os.dropLast ++ [y] := by
    rw [List.getLast?_eq_some_getLast ne] at hy
    cases hy
    exact (List.dropLast_concat_getLast ne).symm
  have ev : vs = vs.dropLast ++ [vs.getLast nv] := (List.dropLast_concat_getLast nv).symm
  have ld : vs.dropLast.length = os.dropLast.length := by rw [List.length_dropLast, List.length_dropLast, l]
  refine ⟨.inl ⟨rfl, vs, .inl (.inl hq)⟩, q, vs, vs.getLast nv, rfl, rfl, hq, ?_, ?_⟩
  · rw [List.getLast_eq_getElem]
    exact List.getElem?_eq_getElem _
  · refine mm F2 _ s2 _ ?_
    have hqn : q ∉ Lp := fun h => by
      obtain ⟨_, _, _, fp, nd, _, _⟩ := g5
      have := (List.nodup_append.mp nd).2.1
      exact (List.nodup_cons.mp this).1 (List.mem_append_left _ h)
    have z : vs.zip os = vs.dropLast.zip os.dropLast ++ [(vs.getLast nv, y)] := by
      conv => lhs; rw [ev, eo]
      exact zip_app ld
    have g6 : G Γ F2 Fr (upd H2 q (.lst vs.dropLast)) (q :: (Lp ++ [])) (vs.dropLast.zip os.dropLast ++ (ys ++ ((vs.getLast nv, y) :: ts ++ live σ (ρ.set i none)))) := by
      rw [z, List.append_assoc] at g5
      refine (G.write (u := .lst vs.dropLast) g5).perm (List.Perm.append_left _ ?_)
      exact (List.perm_middle (l₁ := ys)).symm
    have g12 := G.closeL g6 upd_same ld
    have g13 := back F2 Fr (upd H2 q (.lst vs.dropLast)) [] ((vs.getLast nv, y) :: ts ++ live σ (ρ.set i none)) (.lst os.dropLast) (fun a ha => upd_ne (fun z : a = q => hqn (by rw [← z]; exact ha))) g12
    exact GS.putAt (v := v) (ts := (vs.getLast nv, y) :: ts) ⟨g2.ok.hid i, g13⟩ ho hv
/-- a name hands on what it owns -/
theorem de_mv (i : Nat) (hN : X.N[i]? = some x := by rfl) (hv : Vis X.env.scope x := by first | exact Or.inl rfl | exact Or.inr (Or.inl rfl) | exact Or.inr (Or.inr rfl)) (hd : (x == ("__debug__" : Str)) = false := by decide)
    (hcd : (x == ("__classdict__" : Str)) = false := by decide) : DenE X Γ W (.Name x pos) (eMv i) := pe_imp (pv i hN hv hd hcd) fun σ H Q ⟨ρ, F, Fr, ts, g, m⟩ => by
  unfold eMv at m
  split at m
  · rename_i o' ho
    obtain ⟨v, hv, g'⟩ := g.take ho
    exact ⟨v, hv, m F H (Sub.refl _) v g'⟩
  · exact False.elim m
/-- name.f += e -/
theorem ds_fAug (i : Nat) {f : String} (hK : X.K = Γ.K) (hC : ClsOk Γ.K Γ.ct) (he : DenE X Γ W e ca) (hN : X.N[i]? = some x := by rfl) (hv : Vis X.env.scope x := by first | exact Or.inl rfl | exact Or.inr (Or.inl rfl) | exact Or.inr (Or.inr rfl)) (hd : (x == ("__debug__" : Str)) = false := by decide)
    (hcd : (x == ("__classdict__" : Str)) = false := by decide) :
    DenS X Γ W kp (.AugAssign (.Attribute (.Name x p) (Str.ofString f) tpos) .Add e pos) (sFAug i f ca) := by
  refine ps_imp (ps_fldaug (pv i hN hv hd hcd) he in_add) fun D σ H ⟨ρ, F, Fr, ts, g, m⟩ => ?_
  unfold sFAug at m
  split at m
  case h_2 => exact m.elim
  rename_i c fs ho
  split at m
  case h_2 => exact m.elim
  rename_i a0 ha
  obtain ⟨v, hv⟩ := g.ok.get ho
  obtain ⟨fp, r⟩ := G.head (g.takeAt ho hv).g
  obtain ⟨q, C, dx, fvs, f', rfl, hc, hq, _, rq⟩ := r
  obtain ⟨u, fu, hu, ru, hm⟩ := rq.get ha
  have eu : u = .int a0 := ru.1
  subst eu
  refine ⟨_, hv, q, C, dx, fvs, _, rfl, hq, hK ▸ hC.cls c C hc, hK ▸ hC.no c C f hc hm, hu, ρ, F, Fr, ts, g, (FlowP.bind0 m).mono fun o1 ρ1 F1 H1 s1 m1 v1 g1 => ?_⟩
  split at m1
  case h_2 => exact m1.elim
  rename_i b0
  split at m1
  case h_2 => exact m1.elim
  rename_i c2 fs2 ho2
  split at m1
  case isFalse => exact m1.elim
  rename_i hz
  obtain ⟨ec, hz1, hz2⟩ := hz
  subst ec
  have e1 : v1 = .int b0 := g1.fzF
  subst e1
  obtain ⟨q2, C2, dx2, fvs2, eq, hc2, hq2, l1, l2, g2⟩ := G.openI (g1.tail.takeAt ho2 hv).g
  cases eq
  rw [hc] at hc2
  cases hc2
  obtain ⟨p1, p2⟩ := putF_rep (f := f) (y := V.int (a0 + b0)) (x := intO (a0 + b0)) l1
  have hm2 : f ∈ attrsOf c2 := by simpa using hz2
  have hlen : fvs2.length = fs2.length := by simpa using congrArg List.length l1
  refine ⟨a0, b0, rfl, rfl, dx2, fvs2, hq2, by rw [hlen]; exact hz1, m1 σ F1 _ Kept.refl (Sub.refl _) ?_⟩
  have l2' : ∀ p ∈ FA.putF fs2 f (intO (a0 + b0)), p.1 ∈ attrsOf c2 := fun p hp => by
    rcases putF_mem hp with z | z
    · rw [z]; exact hm2
    · exact l2 p z
  have g2' : G Γ F1 Fr H1 [q] ((V.int (a0 + b0), intO (a0 + b0)) :: ((fvs2.map (·.2)).zip (fs2.map (·.2)) ++ (ts ++ live σ (ρ1.set i none)))) := G.addF (d := .int (a0 + b0)) g2 rfl
  have g3 := G.write (u := .ins C dx2 (L2.putF (Str.ofString f) (V.int (a0 + b0)) fvs2)) g2'
  have g4 : G Γ F1 Fr (upd H1 q (.ins C dx2 (L2.putF (Str.ofString f) (V.int (a0 + b0)) fvs2))) [q] (((L2.putF (Str.ofString f) (V.int (a0 + b0)) fvs2).map (·.2)).zip ((FA.putF fs2 f (intO (a0 + b0))).map (·.2)) ++ (ts ++ live σ (ρ1.set i none))) := by
    rcases p2 with p2 | ⟨p, rest, q1, q2⟩
    · exact g3.perm (p2.symm.append_right _)
    · have g5 := g3.perm ((q1.append_right _).cons _)
      exact (G.tail (v := p.1) (o := p.2) (g5.perm (.swap _ _ _))).perm (q2.symm.append_right _)
  exact GS.putAt (v := .ref q) ⟨g1.ok.hid i, G.closeI g4 hc upd_same p1 l2'⟩ ho2 hv
/-- o.m(..), what is raised wished for at the caller's slots -/
def tMethS (C : Addr) (m : Str) (sp : Sp) (E : L2.St → XK) (ta : TE) (t : TA) : TE := fun σ H Q => ta σ H fun x H1 => ∃ a dx fs, x = .ref a ∧ H1 a = some (.ins C dx fs) ∧ fs.lookup m = none ∧
  t σ H1 fun vs H2 => sp (x :: vs) H2 Q (E σ)
variable {CX : CXT} {k : Nat} {f C : Addr} {fd : FuncData} {ps : List Str} {sp : Sp} {E : L2.St → XK} {m : Str} {o : Expr} {es : List Expr} {ta : TE} {t : TA}
theorem pe_methS {pl : Sem Bool} (he : PE X o ta) (c : Cls X.K C) (hm : Meth X.K C m f) (F : FnOk X.prog X.w X.K X.mg X.base CX k f fd ps sp) (hr : Room k X.A) (hb : Binds X.K fd ps []) (hx : ∀ σ, PassesAt CX X σ (E σ)) (ha : PA X (e :: es) t)
    (ht : eval (.Call (.Attribute o m apos) (e :: es) [] pos) X.env = (do
      let ov ← eval o X.env
      standAt apos.atName
      let (f, first) ← holding [ov] (getMethod ov m pl)
      callWith pos f first (backTo pos (starEach (e :: es) X.env)) (backToKw pos (keywordEach [] X.env))))
    (hst : starEach (e :: es) X.env = (false, eval e X.env) :: starEach es X.env := by rfl) (hpl : (backTo pos (starEach es X.env)).any (·.1) = false := by rfl) :
    PE X (.Call (.Attribute o m apos) (e :: es) [] pos) (tMethS C m sp E ta t) := by
  refine ⟨fun pins s σ H Q I h => ?_⟩
  refine PySem.W.methodCall_KW (pl := pl) (thn (he.run pins s σ H _ I h) fun u s1 ⟨x, H1, I1, rx, a, dx, fs, ex, ea, l, q⟩ => ?_) ht
  subst ex
  obtain rfl : u = Value.ref a := rx
  refine getmeth_ok I1 ea c hm l ?_
  refine PySem.W.callWith_K (first := [.ref a]) (h₀ := X.base) I.ok.mod.kin hm.kp (thn (ha.run pos pins s1 σ H1 _ I1 q) fun us s2 ⟨vs, H2, I2, r, q2⟩ => ⟨I2.kIn, ?_⟩) hst hpl
  exact run_fnSD (us := .ref a :: us) (vs := .ref a :: vs) (dvs := []) F hr hb .nil (hx σ) I2 (.cons rfl r) (by rw [List.append_nil]; exact q2)
theorem pe_methS0 {pl : Sem Bool} (he : PE X o ta) (c : Cls X.K C) (hm : Meth X.K C m f) (F : FnOk X.prog X.w X.K X.mg X.base CX k f fd ps sp) (hr : Room k X.A) (hb : Binds X.K fd ps []) (hx : ∀ σ, PassesAt CX X σ (E σ))
    (ht : eval (.Call (.Attribute o m apos) [] [] pos) X.env = (do
      let ov ← eval o X.env
      standAt apos.atName
      let (f, first) ← holding [ov] (getMethod ov m pl)
      callWith pos f first (backTo pos (starEach [] X.env)) (backToKw pos (keywordEach [] X.env)))) :
    PE X (.Call (.Attribute o m apos) [] [] pos) (tMethS C m sp E ta tNil) := by
  refine ⟨fun pins s σ H Q I h => ?_⟩
  refine PySem.W.methodCall_KW (pl := pl) (thn (he.run pins s σ H _ I h) fun u s1 ⟨x, H1, I1, rx, a, dx, fs, ex, ea, l, q⟩ => ?_) ht
  subst ex
  obtain rfl : u = Value.ref a := rx
  refine getmeth_ok I1 ea c hm l ?_
  exact PySem.W.callWith_K0 (first := [.ref a]) I1.kIn hm.kp (run_fnSD (us := [.ref a]) (vs := [.ref a]) (dvs := []) F hr hb .nil (hx σ) I1 (.cons rfl .nil) q)
/-- a method stands in its class and keeps its promise -/
def OkMt (P : Program) (w : World) (K : PySem.W.Frag) (mg : Str → Option Value) (base : Heap) (Γ : Wd) (k : Nat) (c : String) (m : Str) (ps : List Str) (f : FSem) (mask : List Bool) : Prop :=
  ∃ (C fa : Addr) (fd : FuncData), Γ.ct c = some C ∧ Cls K C ∧ Meth K C m fa ∧ Binds K fd ps [] ∧ FnOk P w K mg base (L2.CX P w) k fa fd ps (spOf Γ f mask)
theorem meth_slot {i : Nat} {c : String} {ms : String} {fs : List (String × O)} {C : Addr} (hc : Γ.ct c = some C) (g : GS Γ F Fr H σ ρ ts) (h : ρ[i]? = some (some (.ins c fs))) (hv : σ[i]? = some (some v)) (hn : (attrsOf c).contains ms = false) :
    ∃ a dx fvs, v = .ref a ∧ H a = some (.ins C dx fvs) ∧ fvs.lookup (Str.ofString ms) = none := by
  obtain ⟨a, C', dx, fvs, e, hc', hq, l1, l2, _⟩ := G.openI (g.takeAt h hv).g
  rw [hc] at hc'
  cases hc'
  exact ⟨a, dx, fvs, e, hq, look_none l1 l2 hn⟩
theorem de_meth {j : Nat} {c : String} {ms : String} {g : FSem} {as : List Ar} {ar : Ar} {mask : List Bool} {pl : Sem Bool} (i : Nat) (h : OkMt X.prog X.w X.K X.mg X.base Γ k c (Str.ofString ms) ps g mask) (hr : Room j X.A) (hk : k ≤ j) (tk : Takes X W) (hn : (attrsOf c).contains ms = false)
    (ha : DenAr X Γ W (e :: es) (ar :: as)) (hN : X.N[i]? = some x := by rfl)
    (ht : eval (.Call (.Attribute (.Name x p) (Str.ofString ms) apos) (e :: es) [] pos) X.env = (do
      let ov ← eval (.Name x p) X.env
      standAt apos.atName
      let (f, first) ← holding [ov] (getMethod ov (Str.ofString ms) pl)
      callWith pos f first (backTo pos (starEach (e :: es) X.env)) (backToKw pos (keywordEach [] X.env))) := by rfl)
    (nd : (ios (.io i :: ar :: as)).Nodup := by decide) (hmask : mask = (Ar.io i :: ar :: as).map isIo := by rfl) (hv : Vis X.env.scope x := by first | exact Or.inl rfl | exact Or.inr (Or.inl rfl) | exact Or.inr (Or.inr rfl)) (hd : (x == ("__debug__" : Str)) = false := by decide)
    (hcd : (x == ("__classdict__" : Str)) = false := by decide) (hst : starEach (e :: es) X.env = (false, eval e X.env) :: starEach es X.env := by rfl) (hpl : (backTo pos (starEach es X.env)).any (·.1) = false := by rfl) :
    DenE X Γ W (.Call (.Attribute (.Name x p) (Str.ofString ms) apos) (e :: es) [] pos) (eMeth c g i (ar :: as)) := by
  obtain ⟨C, fa, fd, hc, cls, mt, hb, Fn⟩ := h
  subst hmask
  refine pe_imp (pe_methS (pv i hN hv hd hcd) cls mt Fn (hr.mono hk) hb (fun σ => passAt tk σ) ha ht hst hpl) fun σ H Q ⟨ρ, F, Fr, ts, g, m⟩ => ?_
  unfold eMeth at m
  split at m
  case h_2 => exact m.elim
  rename_i c' fs ho
  split at m
  case isFalse => exact m.elim
  rename_i ec
  subst ec
  obtain ⟨v, hv⟩ := g.ok.get ho
  obtain ⟨a, dx, fvs, e1, hq, hl⟩ := meth_slot hc g ho hv hn
  refine ⟨v, hv, a, dx, fvs, e1, hq, hl, ρ, F, Fr, ts, g, ?_⟩
  unfold eCall at m
  have m' := Post.bind0 m
  have ea : args (.io i :: ar :: as) ρ = (args (ar :: as) ρ).bind fun xs ρ => .ok (none :: xs) ρ := by
    show (match ρ[i]? with | some (some _) => (args (ar :: as) ρ).bind fun xs ρ => .ok (none :: xs) ρ | _ => .st) = _
    rw [ho]
  rw [ea] at m'
  refine (Post.bind0 m').mono fun xs ρ1 F1 H1 s1 m1 vs hvs g1 => ?_
  exact call_ok (as := .io i :: ar :: as) (xs := none :: xs) (vs := v :: vs) nd ⟨hv, hvs⟩ g1 (m1 F1 H1 (Sub.refl _))
theorem de_meth0 {j : Nat} {c : String} {ms : String} {g : FSem} {mask : List Bool} {pl : Sem Bool} (i : Nat) (h : OkMt X.prog X.w X.K X.mg X.base Γ k c (Str.ofString ms) ps g mask) (hr : Room j X.A) (hk : k ≤ j) (tk : Takes X W) (hn : (attrsOf c).contains ms = false)
    (hN : X.N[i]? = some x := by rfl)
    (ht : eval (.Call (.Attribute (.Name x p) (Str.ofString ms) apos) [] [] pos) X.env = (do
      let ov ← eval (.Name x p) X.env
      standAt apos.atName
      let (f, first) ← holding [ov] (getMethod ov (Str.ofString ms) pl)
      callWith pos f first (backTo pos (starEach [] X.env)) (backToKw pos (keywordEach [] X.env))) := by rfl)
    (hmask : mask = [true] := by rfl) (hv : Vis X.env.scope x := by first | exact Or.inl rfl | exact Or.inr (Or.inl rfl) | exact Or.inr (Or.inr rfl)) (hd : (x == ("__debug__" : Str)) = false := by decide)
    (hcd : (x == ("__classdict__" : Str)) = false := by decide) :
    DenE X Γ W (.Call (.Attribute (.Name x p) (Str.ofString ms) apos) [] [] pos) (eMeth c g i []) := by
  obtain ⟨C, fa, fd, hc, cls, mt, hb, Fn⟩ := h
  subst hmask
  refine pe_imp (pe_methS0 (pv i hN hv hd hcd) cls mt Fn (hr.mono hk) hb (fun σ => passAt tk σ) ht) fun σ H Q ⟨ρ, F, Fr, ts, g, m⟩ => ?_
  unfold eMeth at m
  split at m
  case h_2 => exact m.elim
  rename_i c' fs ho
  split at m
  case isFalse => exact m.elim
  rename_i ec
  subst ec
  obtain ⟨v, hv⟩ := g.ok.get ho
  obtain ⟨a, dx, fvs, e1, hq, hl⟩ := meth_slot hc g ho hv hn
  refine ⟨v, hv, a, dx, fvs, e1, hq, hl, ?_⟩
  unfold eCall at m
  have m' := Post.bind0 m
  have ea : args [.io i] ρ = .ok [none] ρ := by
    show (match ρ[i]? with | some (some _) => (args [] ρ).bind fun xs ρ => .ok (none :: xs) ρ | _ => .st) = _
    rw [ho]; rfl
  rw [ea] at m'
  exact call_ok (as := [.io i]) (xs := [none]) (vs := [v]) (List.nodup_cons.mpr ⟨by simp [ios], by simp [ios]⟩) ⟨hv, trivial⟩ g (m' F H (Sub.refl _))
end
end FA
namespace FA
open PySem PySem.Spec L2 PySem.W
section
variable {X : Cx} {Γ : Wd} {W : WX}
theorem ints_keysD {α : Type} : ∀ {kk : List (Key × V)} {kos : List (FA.D × α)} {l : List Int}, kk.map (fun p => some p.1) = kos.map (fun p => keyOf p.1) → intsOf (kos.map fun p => p.1) = some l → kk.map (·.1) = l.map Sum.inl
  | [], [], l, _, h => by cases h; rfl
  | [], _ :: _, _, h, _ => by simp at h
  | _ :: _, [], _, h, _ => by simp at h
  | p :: kk, q :: kos, l, h, h2 => by
    have e1 : some p.1 = keyOf q.1 := (List.cons.inj h).1
    have e2 := (List.cons.inj h).2
    cases hq : q.1 with
    | int j =>
      rw [List.map_cons, hq] at h2
      obtain ⟨l', h3, rfl⟩ := Option.map_eq_some_iff.mp (show (intsOf (kos.map fun p => p.1)).map (j :: ·) = some l from h2)
      rw [hq] at e1
      have e3 : p.1 = .inl j := Option.some.inj e1
      rw [List.map_cons, List.map_cons, e3, ints_keysD e2 h3]
    | _ => rw [List.map_cons, hq] at h2; simp [intsOf] at h2
theorem le_perm_eq : ∀ {a b : List Int}, a.Perm b → a.Pairwise (· ≤ ·) → b.Pairwise (· ≤ ·) → a = b
  | [], b, p, _, _ => by rw [List.Perm.nil_eq p]
  | x :: a, [], p, _, _ => by have := p.length_eq; simp at this
  | x :: a, y :: b, p, ha, hb => by
    have ha' := List.pairwise_cons.mp ha
    have hb' := List.pairwise_cons.mp hb
    have e : x = y := by
      have h1 : x ∈ y :: b := p.mem_iff.mp (List.mem_cons_self ..)
      have h2 : y ∈ x :: a := p.mem_iff.mpr (List.mem_cons_self ..)
      rcases List.mem_cons.mp h1 with h1 | h1
      · exact h1
      · rcases List.mem_cons.mp h2 with h2 | h2
        · exact h2.symm
        · have := ha'.1 y h2
          have := hb'.1 x h1
          omega
    subst e
    rw [le_perm_eq (List.Perm.cons_inv p) ha'.2 hb'.2]
theorem sortI_pw (ks : List Int) : (ks.mergeSort fun a b => decide (a ≤ b)).Pairwise (· ≤ ·) := by
  have := List.pairwise_mergeSort (le := fun (a b : Int) => decide (a ≤ b)) (fun a b c h1 h2 => by simp at *; omega) (fun a b => by simp; omega) ks
  exact this.imp fun h => by simpa using h
theorem reps_ints {F : Hp} : ∀ (ys : List Int), RepFs Γ F (ys.map D.int) (ys.map V.int)
  | [] => rfl
  | y :: r => ⟨_, _, rfl, rfl, reps_ints r⟩
theorem c_sortI (hc : X.calm = true) : Op1C X Γ (.builtin "sorted") opSortI := by
  refine ⟨_, call_sortedDI hc, fun {F Fr H L its v1 o1 o Q} g e k => ?_⟩
  obtain ⟨F1, s1, g1, r⟩ := G.freeze1 g
  generalize o1.fr = d at *
  cases d with
  | dic kvs =>
    have e : (match intsOf (kvs.map fun p => p.1) with
      | some ks => if ks.length < 64 then some (O.lst ((ks.mergeSort fun a b => decide (a ≤ b)).map fun i => .fz (.int i))) else none
      | none => none) = some o := e
    split at e
    case h_2 => cases e
    rename_i ks hks
    split at e
    case isFalse => cases e
    rename_i hl
    cases e
    obtain ⟨a, kvv, rfl, dr, rk⟩ := r
    have m4 := rk.keys.1
    have hk : ∀ p q, kvv = p :: q → isTupD p.1 = false := fun p q e => by
      subst e
      cases kvs with
      | nil => cases m4
      | cons z t =>
        have e1 : p.1 = z.1 := (List.cons.inj m4).1
        rw [e1]
        cases ha : z.1 with
        | tup _ => rw [List.map_cons, ha] at hks; simp [intsOf] at hks
        | _ => rfl
    obtain ⟨lk, hp, lf⟩ := dic_leafR (dr.mono (Sub.refl _) fun o z => g1.sub _ _ z) hk
    have hks2 : lk.map (fun p => some p.1) = kvs.map (fun p => keyOf p.1) := by
      rw [lf.ks]
      have := congrArg (List.map keyOf) m4
      rwa [List.map_map, List.map_map] at this
    refine ⟨a, lk, ks, rfl, hp, ints_keysD hks2 hks, hl, fun ys p hperm hsrt hp2 => ?_⟩
    have ey : ys = ks.mergeSort fun a b => decide (a ≤ b) := le_perm_eq (hperm.trans (List.mergeSort_perm _ _).symm) hsrt (sortI_pw ks)
    rw [← ey] at k
    have := G.mkL g1 (reps_ints (Γ := Γ) ys) hp2
    rw [List.map_map] at this
    exact k _ _ _ s1 this
  | _ => cases e
end
end FA
namespace FA
open PySem PySem.Spec PyProof.Rows L2
def ctOf (K : PySem.W.Frag) (cls : List String) : CT := fun c => if c ∈ cls then some (He.ga K (Str.ofString c)) else none
theorem fm_cons {α : Type} {P : α → Prop} {a : α} {l : List α} (h : P a) (r : ∀ x ∈ l, P x) : ∀ x ∈ a :: l, P x := fun x hx => by
  rcases List.mem_cons.mp hx with rfl | hx
  · exact h
  · exact r x hx
theorem clsOk_of {K : PySem.W.Frag} {cls : List String} (h : ∀ c ∈ cls, Cls K (He.ga K (Str.ofString c)) ∧ ∀ f ∈ attrsOf c, NoAttr K (He.ga K (Str.ofString c)) (Str.ofString f)) : ClsOk K (ctOf K cls) where
  cls := fun c C e => by
    unfold ctOf at e
    split at e
    · rename_i hc; cases e; exact (h c hc).1
    · cases e
  no := fun c C f e hf => by
    unfold ctOf at e
    split at e
    · rename_i hc; cases e; exact (h c hc).2 f hf
    · cases e
def gam (P : Program) (w : World) (K : PySem.W.Frag) (cls : List String) : Wd := ⟨P, w, K, ctOf K cls, ObT P w⟩
theorem cx_none {P : Program} {w : World} {H : Hp} {s s' : Shared} {e : Value} (z : L2.CX P w [] H s (fun _ _ _ => False) e s') : False := by
  obtain ⟨_, _, _, _, _, _, _, _, _, _, _, _, z⟩ := z
  exact z
theorem walk_ofW {l : PySem.W.OpenLaw} {n k : Nat} {q : Program} {loose : List Str} {XP : (Str → Option Value) → Heap → Prop} {YP : World → Heap → Prop} {d : DefRec} {CX : World → CXT} {x : Str}
    (hn : l.most = some n) (hn2 : n ≤ sizeLine) (hdf : d.params.defaults = []) (hr : Room k callerA)
    (F : ∀ (w : World) (mg : Str → Option Value) (fa : Addr) (h : Heap), YP w h → h.Ns mainGlobals mg → mg d.name = some (.ref fa) →
      ∃ (K : PySem.W.Frag) (fd : FuncData) (sp : Sp), K.In h ∧ (∀ (s : Shared) (u : Value), BindsTo s fd ⟨[u], []⟩ [(x, u)]) ∧
        (∀ (H : Hp) (a : Addr) (ns : List Int), ns.length ≤ n → Only H → SqL K H a (ns.map V.int) → sp [.ref a] H (fun v _ => v = .bl true) fun _ _ _ => False) ∧
        ∀ base : Heap, K.In base → base.Ns mainGlobals mg → FnOk l.prog w K mg base (CX w) k fa fd [x] sp)
    (hCX : ∀ (w : World) (H : Hp) (s : Shared) (e : Value) (s' : Shared), CX w [] H s (fun _ _ _ => False) e s' → False) :
    PySem.W.WalkO q loose XP YP l.row.toRowW d [] (fun f vs => PySem.call f vs) := by
  refine Att.attach_call hn hdf fun w s₀ s₁ mg mb fa o pm cd doc a vs ns G Y ho hd hcd hmg hobj hints hlen hg => ?_
  obtain ⟨K, fd, sp, KX, hb, hsp, hF⟩ := F w mg fa _ Y G.T.g hmg
  exact law_call KX G.T.g G.T.b G.T.builtins G.T.nolimit hg hobj hints (Nat.le_trans hlen hn2) hr hF hb (fun H hO hS => hsp H a ns hlen hO hS) fun H e s' => hCX w H s₁ e s'
theorem law_sp {P : Program} {w : World} {K : PySem.W.Frag} {cls : List String} {f : FSem} {n : Nat} (ht : ∀ ns : List Int, ns.length ≤ n → ∃ outs, f [.fz (.scr ns)] = .ok (.fz (.bl true)) outs) (H : Hp) (a : Addr) (ns : List Int) (hl : ns.length ≤ n) (hS : SqL K H a (ns.map V.int)) :
    spOf (gam P w K cls) f [false] [.ref a] H (fun v _ => v = .bl true) fun _ _ _ => False := by
  obtain ⟨outs, e⟩ := ht ns hl
  refine ⟨[.fz (.scr ns)], H, fun _ => none, [], rfl, rfl, ⟨fun _ _ z => z, fun _ _ z => (by cases z), fun _ _ _ => rfl, [], List.nodup_nil, fun x hx => (by cases hx), [], [], rfl, ⟨⟨a, rfl, hS⟩, rfl⟩, rfl⟩, ?_⟩
  rw [e]
  intro v F' H' s g
  exact G.fzF g
end FA
namespace FA
section
def body_onward : Stx := (sBlk [
  (sSet (.nm 3) eDic0),
  (sFor (.nm 4) (iE (eP (pV 1))) (sBlk [
    (sFor (.nm 5) (iE (eP (pIx (pFld (pV 0) "follow") (pV 4)))) (sBlk [
      (sIf (tOr (tE (e2 opIs (eP (pIx (pFld (pV 0) "marks") (pV 5))) (eC (.non)))) (tE (e2 opEq (eP (pIx (pFld (pV 0) "marks") (pV 5))) (eP (pV 2))))) (sBlk [
        (sSetD 3 (eP (pV 5)) (eC (.bl true)))]) sNx)]))])),
  (sRet (e1 opTuple (e1 opSortI (eFrz 3))))])
def sem_onward : FSem := runDef 6 3 [] body_onward
def body_accepts : Stx := (sBlk [
  (sRet (e1 opAny (eComp [2] (.nm 2) (iE (eP (pV 1))) tT (e2P opIn (eP (pV 2)) (pFld (pV 0) "ends")))))])
def sem_accepts : FSem := runDef 3 2 [] body_accepts
def body_describes : Stx := (sBlk [
  (sSet (.nm 2) (eFz (eTup [(eC (.int 0))]))),
  (sFor (.nm 3) (iE (eP (pV 1))) (sBlk [
    (sSet (.nm 2) (eFz (eCall sem_onward [.v (eP (pV 0)), .v (eP (pV 2)), .v (eP (pV 3))])))])),
  (sRet (eCall sem_accepts [.v (eP (pV 0)), .v (eP (pV 2))]))])
def sem_describes : FSem := runDef 4 2 [] body_describes
def body_Network_init : Stx := (sBlk [
  (sSetF (lV 0) "marks" (eP (pV 1))),
  (sSetF (lV 0) "follow" (eP (pV 2))),
  (sSetF (lV 0) "ends" (eP (pV 3)))])
def sem_Network_init : FSem := runDef 4 4 [0] body_Network_init
def body_Part_init : Stx := (sBlk [
  (sSetF (lV 0) "nullable" (eP (pV 1))),
  (sSetF (lV 0) "first" (eP (pV 2))),
  (sSetF (lV 0) "last" (eP (pV 3)))])
def sem_Part_init : FSem := runDef 4 4 [0] body_Part_init
def body_merged : Stx := (sBlk [
  (sRet (e1 opSortI (eDCompL [2] (.nm 2) (iE (e2 opAdd (eP (pV 0)) (eP (pV 1)))) tT (eP (pV 2)) (eC (.bl true)))))])
def sem_merged : FSem := runDef 3 2 [] body_merged
def body_Scanner_init : Stx := (sBlk [
  (sSetF (lV 0) "alphabet" (eP (pV 1))),
  (sSetF (lV 0) "marks" (eLst [(eC (.non))])),
  (sSetF (lV 0) "follow" (eLst [(eLst [])])),
  (sSetF (lV 0) "frames" (eLst [(eLst [(eLst [])])])),
  (sSetF (lV 0) "signs" (eC (.int 0))),
  (sSetF (lV 0) "starred" (eC (.bl false)))])
def sem_Scanner_init : FSem := runDef 2 2 [0] body_Scanner_init
def body_Scanner_is_closed : Stx := (sBlk [
  (sRet (e2 opEq (e1P opLen (pFld (pV 0) "frames")) (eC (.int 1))))])
def sem_Scanner_is_closed : FSem := runDef 1 1 [0] body_Scanner_is_closed
def body_Scanner__join : Stx := (sBlk [
  (sFor (.nm 3) (iE (eP (pV 1))) (sBlk [
    (sSetP 0 (ptFld ptV "follow") (eP (pV 3)) (eFz (eCall sem_merged [.v (eP (pIx (pFld (pV 0) "follow") (pV 3))), .v (eP (pV 2))])))]))])
def sem_Scanner__join : FSem := runDef 4 3 [0] body_Scanner__join
def body_Scanner__take_star : Stx := (sBlk [
  (sIf (tNot (tP (pFld (pV 0) "starred"))) (sBlk [
    (sRet (eC (.bl false)))]) sNx),
  (sSet (.nm 2) (eP (pIx (pIx (pIx (pFld (pV 0) "frames") (pC (.int (-1)))) (pC (.int (-1)))) (pC (.int (-1)))))),
  (sIf (tE (e2 opNe (eP (pV 1)) (eC (.str [63])))) (sBlk [
    (sEx (eMeth "Scanner" sem_Scanner__join 0 [.v (eP (pFld (pV 2) "last")), .v (eP (pFld (pV 2) "first"))]))]) sNx),
  (sSetP 0 (ptIx (ptIx (ptFld ptV "frames") (pC (.int (-1)))) (pC (.int (-1)))) (eC (.int (-1))) (eFz (eCall (semMake "Part" sem_Part_init) [.v (eOr (eP (pFld (pV 2) "nullable")) (e2 opNe (eP (pV 1)) (eC (.str [43])))), .v (eP (pFld (pV 2) "first")), .v (eP (pFld (pV 2) "last"))]))),
  (sRet (eC (.bl true)))])
def sem_Scanner__take_star : FSem := runDef 3 2 [0] body_Scanner__take_star
def body_Scanner__add : Stx := (sBlk [
  (sAppP 0 (ptIx (ptIx (ptFld ptV "frames") (pC (.int (-1)))) (pC (.int (-1)))) (eP (pV 1))),
  (sSetF (lV 0) "starred" (eC (.bl true)))])
def sem_Scanner__add : FSem := runDef 2 2 [0] body_Scanner__add
def body_Scanner__row : Stx := (sBlk [
  (sSet (.nm 2) (eFz (eCall (semMake "Part" sem_Part_init) [.v (eC (.bl true)), .v (eLst []), .v (eLst [])]))),
  (sFor (.nm 3) (iE (eP (pV 1))) (sBlk [
    (sEx (eMeth "Scanner" sem_Scanner__join 0 [.v (eP (pFld (pV 2) "last")), .v (eP (pFld (pV 3) "first"))])),
    (sSet (.nm 4) (eFz (eIf (tP (pFld (pV 2) "nullable")) (eCall sem_merged [.v (eP (pFld (pV 2) "first")), .v (eP (pFld (pV 3) "first"))]) (eP (pFld (pV 2) "first"))))),
    (sSet (.nm 5) (eFz (eIf (tP (pFld (pV 3) "nullable")) (eCall sem_merged [.v (eP (pFld (pV 2) "last")), .v (eP (pFld (pV 3) "last"))]) (eP (pFld (pV 3) "last"))))),
    (sSet (.nm 2) (eFz (eCall (semMake "Part" sem_Part_init) [.v (eAnd (eP (pFld (pV 2) "nullable")) (eP (pFld (pV 3) "nullable"))), .v (eP (pV 4)), .v (eP (pV 5))])))])),
  (sRet (eP (pV 2)))])
def sem_Scanner__row : FSem := runDef 6 2 [0] body_Scanner__row
def body_Scanner__choice : Stx := (sBlk [
  (sSet (.nm 2) (eFz (eMeth "Scanner" sem_Scanner__row 0 [.v (eP (pIx (pV 1) (pC (.int 0))))]))),
  (sFor (.nm 3) (iE (eSl (eP (pV 1)) (some (eC (.int 1))) none)) (sBlk [
    (sSet (.nm 4) (eFz (eMeth "Scanner" sem_Scanner__row 0 [.v (eP (pV 3))]))),
    (sSet (.nm 5) (eOr (eP (pFld (pV 2) "nullable")) (eP (pFld (pV 4) "nullable")))),
    (sSet (.nm 2) (eFz (eCall (semMake "Part" sem_Part_init) [.v (eP (pV 5)), .v (eCall sem_merged [.v (eP (pFld (pV 2) "first")), .v (eP (pFld (pV 4) "first"))]), .v (eCall sem_merged [.v (eP (pFld (pV 2) "last")), .v (eP (pFld (pV 4) "last"))])])))])),
  (sRet (eP (pV 2)))])
def sem_Scanner__choice : FSem := runDef 6 2 [0] body_Scanner__choice
def body_Scanner__close : Stx := (sBlk [
  (sIf (tE (eMeth "Scanner" sem_Scanner_is_closed 0 [])) (sBlk [
    (sRet (eC (.bl false)))]) sNx),
  (sSet (.nm 1) (eFz (ePopP 0 (ptFld ptV "frames")))),
  (sEx (eMeth "Scanner" sem_Scanner__add 0 [.v (eMeth "Scanner" sem_Scanner__choice 0 [.v (eP (pV 1))])])),
  (sRet (eC (.bl true)))])
def sem_Scanner__close : FSem := runDef 2 1 [0] body_Scanner__close
def body_Scanner__add_place : Stx := (sBlk [
  (sAppP 0 (ptFld ptV "marks") (eP (pV 1))),
  (sAppP 0 (ptFld ptV "follow") (eFz (eLst []))),
  (sSet (.nm 2) (eFz (eLst [(e2 opSub (e1P opLen (pFld (pV 0) "marks")) (eC (.int 1)))]))),
  (sEx (eMeth "Scanner" sem_Scanner__add 0 [.v (eCall (semMake "Part" sem_Part_init) [.v (eC (.bl false)), .v (eP (pV 2)), .v (eP (pV 2))])]))])
def sem_Scanner__add_place : FSem := runDef 3 2 [0] body_Scanner__add_place
def body_Scanner_take : Stx := (sBlk [
  (sFAug 0 "signs" (eC (.int 1))),
  (sIf (tE (e2P opIn (eP (pV 1)) (pC (.str [42, 43, 63])))) (sBlk [
    (sRet (eMeth "Scanner" sem_Scanner__take_star 0 [.v (eP (pV 1))]))]) sNx),
  (sIf (tE (e2 opEq (eP (pV 1)) (eC (.str [40])))) (sBlk [
    (sAppP 0 (ptFld ptV "frames") (eLst [(eLst [])])),
    (sSetF (lV 0) "starred" (eC (.bl false))),
    (sRet (eC (.bl true)))]) sNx),
  (sIf (tE (e2 opEq (eP (pV 1)) (eC (.str [41])))) (sBlk [
    (sRet (eMeth "Scanner" sem_Scanner__close 0 []))]) sNx),
  (sIf (tE (e2 opEq (eP (pV 1)) (eC (.str [124])))) (sBlk [
    (sAppP 0 (ptIx (ptFld ptV "frames") (pC (.int (-1)))) (eLst [])),
    (sSetF (lV 0) "starred" (eC (.bl false))),
    (sRet (eC (.bl true)))]) sNx),
  (sIf (tAnd (tE (e2 opNe (eP (pV 1)) (eC (.str [46])))) (tE (e2P opNotIn (eP (pV 1)) (pFld (pV 0) "alphabet")))) (sBlk [
    (sRet (eC (.bl false)))]) sNx),
  (sEx (eMeth "Scanner" sem_Scanner__add_place 0 [.v (eIf (tE (e2 opEq (eP (pV 1)) (eC (.str [46])))) (eC (.non)) (eM isSL opIndex (eP (pFld (pV 0) "alphabet")) (eP (pV 1))))])),
  (sRet (eC (.bl true)))])
def sem_Scanner_take : FSem := runDef 2 2 [0] body_Scanner_take
def body_Scanner_network : Stx := (sBlk [
  (sSet (.nm 1) (eFz (eMeth "Scanner" sem_Scanner__choice 0 [.v (eRdP 0 (ptIx (ptFld ptV "frames") (pC (.int 0))))]))),
  (sSet (.nm 2) (eFz (e2 opAdd (eLst [(e1 opListS (eP (pFld (pV 1) "first")))]) (eComp [4] (.nm 4) (iE (eSl (eRdP 0 (ptFld ptV "follow")) (some (eC (.int 1))) none)) tT (e1 opListS (eP (pV 4))))))),
  (sSet (.nm 3) (eFz (e2 opAdd (eIf (tP (pFld (pV 1) "nullable")) (eLst [(eC (.int 0))]) (eLst [])) (eP (pFld (pV 1) "last"))))),
  (sRet (eCall (semMake "Network" sem_Network_init) [.v (e1 opListS (eRdP 0 (ptFld ptV "marks"))), .v (eP (pV 2)), .v (eP (pV 3))]))])
def sem_Scanner_network : FSem := runDef 5 1 [0] body_Scanner_network
def body_scanned : Stx := (sBlk [
  (sSet (.nm 4) (eCall (semMake "Scanner" sem_Scanner_init) [.v (eP (pV 0))])),
  (sSet (.nm 5) (eP (pV 2))),
  (sWhile 100000 (tE (e2 opLt (eP (pV 5)) (e1P opLen (pV 1)))) (sBlk [
    (sIf (tAnd (tE (eMeth "Scanner" sem_Scanner_is_closed 4 [])) (tE (e2P opIn (eP (pIx (pV 1) (pV 5))) (pV 3)))) (sBlk [
      (sRet (eTup [(eMv 4), (eP (pV 5)), (eC (.non))]))]) sNx),
    (sIf (tE (e2 opEq (eP (pFld (pV 4) "signs")) (eC (.int 12)))) (sBlk [
      (sRet (eTup [(eMv 4), (eP (pV 5)), (eC (.str [116, 111, 111, 32, 108, 111, 110, 103]))]))]) sNx),
    (sIf (tNot (tE (eMeth "Scanner" sem_Scanner_take 4 [.v (eP (pIx (pV 1) (pV 5)))]))) (sBlk [
      (sRet (eTup [(eMv 4), (eP (pV 5)), (eC (.str [117, 110, 101, 120, 112, 101, 99, 116, 101, 100]))]))]) sNx),
    (sSet (.nm 5) (e2 opAddI (eP (pV 5)) (eC (.int 1))))])),
  (sIf (tNot (tE (eMeth "Scanner" sem_Scanner_is_closed 4 []))) (sBlk [
    (sRet (eTup [(eMv 4), (eP (pV 5)), (eC (.str [116, 111, 111, 32, 115, 104, 111, 114, 116]))]))]) sNx),
  (sRet (eTup [(eMv 4), (eP (pV 5)), (eC (.non))]))])
def sem_scanned : FSem := runDef 6 4 [] body_scanned
def body_codes : Stx := (sBlk [
  (sRet (eComp [2] (.nm 2) (iE (eP (pV 1))) tT (eM isSL opIndex (eP (pV 0)) (eP (pV 2)))))])
def sem_codes : FSem := runDef 3 2 [] body_codes
def body_Pattern_init : Stx := (sBlk [
  (sSet (.tp [(.nm 3), (.nm 4), (.nm 5)]) (eCall sem_scanned [.v (eP (pV 1)), .v (eP (pV 2)), .v (eC (.int 0)), .v (eC (.str []))])),
  (sIf (tE (e2 opIsNot (eP (pV 5)) (eC (.non)))) (sBlk [
    sNever]) sNx),
  (sSetF (lV 0) "alphabet" (eP (pV 1))),
  (sSetF (lV 0) "text" (eP (pV 2))),
  (sSetF (lV 0) "network" (eMeth "Scanner" sem_Scanner_network 3 []))])
def sem_Pattern_init : FSem := runDef 6 3 [0] body_Pattern_init
def body_matches : Stx := (sBlk [
  (sRet (eCall sem_describes [.v (eP (pFld (pV 0) "network")), .v (eCall sem_codes [.v (eP (pFld (pV 0) "alphabet")), .v (eP (pV 1))])]))])
def sem_matches : FSem := runDef 2 2 [] body_matches
def body_law_cell : Stx := (sBlk [
  (sIf (tE (e2 opLt (eP (pV 1)) (e1P opLen (pV 0)))) (sBlk [
    (sRet (eP (pIx (pV 0) (pV 1))))]) sNx),
  (sRet (eC (.int 0)))])
def sem_law_cell : FSem := runDef 2 2 [] body_law_cell
def body_law_row : Stx := (sBlk [
  (sSet (.nm 3) (eLst [])),
  (sFor (.nm 4) (iRange (eP (pV 1)) (eP (pV 2))) (sBlk [
    (sSet (.nm 5) (eFz (eCall sem_law_cell [.v (eP (pV 0)), .v (eP (pV 4))]))),
    (sSet (.nm 5) (eFz (e2 opAdd (e1 opAbs (e2 opMulI (eC (.int 2)) (eP (pV 5)))) (e1 opInt (e2 opLt (eP (pV 5)) (eC (.int 0))))))),
    (sIf (tE (e2 opGt (eP (pV 5)) (e2 opPow (eC (.int 10)) (eC (.int 18))))) (sBlk [
      (sFor (.nm 6) (iRange1 (eC (.int 60))) (sBlk [
        (sIf (tE (e2 opGt (eP (pV 5)) (eC (.int 0)))) (sBlk [
          (sApp (lV 3) (e2 opMod (e1 opInt (eP (pV 5))) (eC (.int 840)))),
          (sSet (.nm 5) (eFz (e2 opFDiv (eP (pV 5)) (eC (.int 840)))))]) sNx)]))]) (sBlk [
      (sFor (.nm 6) (iRange1 (eC (.int 10))) (sBlk [
        (sSet (.nm 5) (eFz (e2 opMod (e1 opInt (e2 opAdd (e2 opAdd (e2 opMulI (eP (pV 5)) (eC (.int 69069))) (e2 opMulI (eC (.int 104729)) (e2 opAdd (eP (pV 4)) (eP (pV 6))))) (eC (.int 1)))) (eC (.int 4294967291))))),
        (sApp (lV 3) (e2 opMod (e1 opInt (e2 opFDiv (eP (pV 5)) (eC (.int 5003)))) (eC (.int 840))))]))]))])),
  (sRet (eFrz 3))])
def sem_law_row : FSem := runDef 7 3 [] body_law_row
def body_law_draw : Stx := (sBlk [
  (sSet (.nm 2) (eP (pIx (pV 0) (pC (.int 1))))),
  (sSetI (lV 0) (eC (.int 1)) (e2 opAdd (eP (pV 2)) (eC (.int 1)))),
  (sIf (tE (e2 opLt (eP (pV 2)) (e1P opLen (pIx (pV 0) (pC (.int 0)))))) (sBlk [
    (sRet (e2 opMod (e1 opInt (eP (pIx (pIx (pV 0) (pC (.int 0))) (pV 2)))) (eP (pV 1))))]) sNx),
  (sRet (e2 opMod (e1 opInt (e2 opAdd (e2 opMulI (eP (pV 2)) (eC (.int 5))) (eC (.int 1)))) (eP (pV 1))))])
def sem_law_draw : FSem := runDef 3 2 [0] body_law_draw
def body_law_alphabet : Stx := (sBlk [
  (sSet (.nm 2) (eC (.str [98, 97, 100, 99, 101, 122, 121, 120, 119, 118]))),
  (sSet (.nm 3) (eFz (eCall sem_law_draw [.io 0, .v (eC (.int 5))]))),
  (sRet (eSl (eP (pV 2)) (some (eP (pV 3))) (some (e2 opAdd (eP (pV 3)) (eP (pV 1))))))])
def sem_law_alphabet : FSem := runDef 4 2 [0] body_law_alphabet
def body_law_words : Stx := (sBlk [
  (sSet (.nm 2) (eFz (eLst [(eC (.str []))]))),
  (sSet (.nm 3) (eFz (eLst [(eC (.str []))]))),
  (sFor (.nm 4) (iRange1 (eP (pV 1))) (sBlk [
    (sSet (.nm 5) (eFz (eLst []))),
    (sFor (.nm 6) (iE (eP (pV 3))) (sBlk [
      (sSet (.nm 5) (eFz (e2 opAdd (eP (pV 5)) (eComp [7] (.nm 7) (iE (eP (pV 0))) tT (e2 opAdd (eP (pV 6)) (eP (pV 7)))))))])),
    (sSet (.nm 3) (eP (pV 5))),
    (sSet (.nm 2) (eFz (e2 opAdd (eP (pV 2)) (eP (pV 3)))))])),
  (sRet (eP (pV 2)))])
def sem_law_words : FSem := runDef 8 2 [] body_law_words
def body_law_word : Stx := (sBlk [
  (sRet (eM isS opJoin (eC (.str [])) (eComp [3] (.nm 3) (iRange1 (eCall sem_law_draw [.io 0, .v (e2 opAdd (eP (pV 2)) (eC (.int 1)))])) tT (e2 opItem (eP (pV 1)) (eCall sem_law_draw [.io 0, .v (e1P opLen (pV 1))])))))])
def sem_law_word : FSem := runDef 4 3 [0] body_law_word
def body_law_tree (self_law_tree : FSem) : Stx := (sBlk [
  (sSet (.nm 3) (eFz (eCall sem_law_draw [.io 0, .v (eC (.int 9))]))),
  (sIf (tOr (tE (e2 opEq (eP (pV 2)) (eC (.int 0)))) (tE (e2 opLt (eP (pV 3)) (eC (.int 3))))) (sBlk [
    (sIf (tE (e2 opEq (eCall sem_law_draw [.io 0, .v (eC (.int 4))]) (eC (.int 0)))) (sBlk [
      (sRet (eLst [(eC (.str [97, 110, 121]))]))]) sNx),
    (sRet (eLst [(eC (.str [108, 101, 116, 116, 101, 114])), (e2 opItem (eP (pV 1)) (eCall sem_law_draw [.io 0, .v (e1P opLen (pV 1))]))]))]) sNx),
  (sIf (tE (e2 opLt (eP (pV 3)) (eC (.int 5)))) (sBlk [
    (sRet (eLst [(eC (.str [115, 116, 97, 114])), (e2 opItem (eC (.str [42, 43, 63])) (eCall sem_law_draw [.io 0, .v (eC (.int 3))])), (eCall self_law_tree [.io 0, .v (eP (pV 1)), .v (e2 opSub (eP (pV 2)) (eC (.int 1)))])]))]) sNx),
  (sSet (.nm 4) (eFz (eComp [5] (.nm 5) (iRange1 (eCall sem_law_draw [.io 0, .v (eC (.int 4))])) tT (eCall self_law_tree [.io 0, .v (eP (pV 1)), .v (e2 opSub (eP (pV 2)) (eC (.int 1)))])))),
  (sIf (tE (e2 opLt (eP (pV 3)) (eC (.int 7)))) (sBlk [
    (sRet (eLst [(eC (.str [114, 111, 119])), (eP (pV 4))]))]) sNx),
  (sIf (tE (e2 opEq (e1P opLen (pV 4)) (eC (.int 0)))) (sBlk [
    (sSet (.nm 4) (eFz (eLst [(eLst [(eC (.str [114, 111, 119])), (eLst [])])])))]) sNx),
  (sRet (eLst [(eC (.str [111, 114])), (eP (pV 4))]))])
def sem_law_tree : Nat → FSem
  | 0 => fun _ => .st
  | n + 1 => runDef 6 3 [0] (body_law_tree (sem_law_tree n))
def body_law_text_of (self_law_text_of : FSem) : Stx := (sBlk [
  (sIf (tE (e2 opEq (eP (pIx (pV 0) (pC (.int 0)))) (eC (.str [97, 110, 121])))) (sBlk [
    (sRet (eC (.str [46])))]) sNx),
  (sIf (tE (e2 opEq (eP (pIx (pV 0) (pC (.int 0)))) (eC (.str [108, 101, 116, 116, 101, 114])))) (sBlk [
    (sRet (eP (pIx (pV 0) (pC (.int 1)))))]) sNx),
  (sIf (tE (e2 opEq (eP (pIx (pV 0) (pC (.int 0)))) (eC (.str [115, 116, 97, 114])))) (sBlk [
    (sSet (.nm 2) (eFz (e2 opAdd (eCall self_law_text_of [.v (eP (pIx (pV 0) (pC (.int 2)))), .v (e2 opSub (eC (.int 2)) (e1 opInt (e2 opEq (eP (pIx (pIx (pV 0) (pC (.int 2))) (pC (.int 0)))) (eC (.str [115, 116, 97, 114])))))]) (eP (pIx (pV 0) (pC (.int 1))))))),
    (sRet (e2 opItem (eLst [(e2 opAdd (e2 opAdd (eC (.str [40])) (eP (pV 2))) (eC (.str [41]))), (eP (pV 2))]) (e1 opInt (e2 opLt (eP (pV 1)) (eC (.int 2))))))]) sNx),
  (sIf (tE (e2 opEq (eP (pIx (pV 0) (pC (.int 0)))) (eC (.str [114, 111, 119])))) (sBlk [
    (sSet (.nm 2) (eFz (eM isS opJoin (eC (.str [])) (eComp [3] (.nm 3) (iE (eP (pIx (pV 0) (pC (.int 1))))) tT (eCall self_law_text_of [.v (eP (pV 3)), .v (eC (.int 1))]))))),
    (sRet (e2 opItem (eLst [(e2 opAdd (e2 opAdd (eC (.str [40])) (eP (pV 2))) (eC (.str [41]))), (eP (pV 2))]) (e1 opInt (e2 opEq (eP (pV 1)) (eC (.int 0))))))]) sNx),
  (sSet (.nm 2) (eFz (eM isS opJoin (eC (.str [124])) (eComp [3] (.nm 3) (iE (eP (pIx (pV 0) (pC (.int 1))))) tT (eCall self_law_text_of [.v (eP (pV 3)), .v (eC (.int 0))]))))),
  (sRet (e2 opItem (eLst [(e2 opAdd (e2 opAdd (eC (.str [40])) (eP (pV 2))) (eC (.str [41]))), (eP (pV 2))]) (e1 opInt (eAnd (e2 opEq (eP (pV 1)) (eC (.int 0))) (e2 opGt (e1P opLen (pIx (pV 0) (pC (.int 1)))) (eC (.int 1)))))))])
def sem_law_text_of : Nat → FSem
  | 0 => fun _ => .st
  | n + 1 => runDef 4 2 [] (body_law_text_of (sem_law_text_of n))
def body_law_pattern : Stx := (sBlk [
  (sFor (.nm 2) (iRange1 (eC (.int 4))) (sBlk [
    (sSet (.nm 3) (eFz (eCall (sem_law_tree 12) [.io 0, .v (eP (pV 1)), .v (eC (.int 3))]))),
    (sSet (.nm 4) (eFz (eCall (sem_law_text_of 12) [.v (eP (pV 3)), .v (eC (.int 0))]))),
    (sIf (tE (e2 opLe (e1P opLen (pV 4)) (eC (.int 12)))) (sBlk [
      (sRet (eLst [(eP (pV 3)), (eP (pV 4))]))]) sNx)])),
  (sRet (eLst [(eLst [(eC (.str [108, 101, 116, 116, 101, 114])), (eP (pIx (pV 1) (pC (.int 0))))]), (eP (pIx (pV 1) (pC (.int 0))))]))])
def sem_law_pattern : FSem := runDef 5 2 [0] body_law_pattern
def body_law_ends (self_law_ends : FSem) (self_law_starred : FSem) : Stx := (sBlk [
  (sIf (tE (e2 opEq (eP (pIx (pV 0) (pC (.int 0)))) (eC (.str [97, 110, 121])))) (sBlk [
    (sRet (eComp [5] (.nm 5) (iE (eP (pV 2))) (tE (e2 opLt (eP (pV 5)) (e1P opLen (pV 1)))) (e2 opAdd (eP (pV 5)) (eC (.int 1)))))]) sNx),
  (sIf (tE (e2 opEq (eP (pIx (pV 0) (pC (.int 0)))) (eC (.str [108, 101, 116, 116, 101, 114])))) (sBlk [
    (sRet (eComp [5] (.nm 5) (iE (eP (pV 2))) (tAnd (tE (e2 opLt (eP (pV 5)) (e1P opLen (pV 1)))) (tE (e2 opEq (eP (pIx (pV 1) (pV 5))) (eP (pIx (pV 0) (pC (.int 1))))))) (e2 opAdd (eP (pV 5)) (eC (.int 1)))))]) sNx),
  (sIf (tE (e2 opEq (eP (pIx (pV 0) (pC (.int 0)))) (eC (.str [114, 111, 119])))) (sBlk [
    (sFor (.nm 3) (iE (eP (pIx (pV 0) (pC (.int 1))))) (sBlk [
      (sSet (.nm 2) (eFz (eCall self_law_ends [.v (eP (pV 3)), .v (eP (pV 1)), .v (eP (pV 2))])))])),
    (sRet (eP (pV 2)))]) sNx),
  (sIf (tE (e2 opEq (eP (pIx (pV 0) (pC (.int 0)))) (eC (.str [111, 114])))) (sBlk [
    (sSet (.nm 4) (eFz (eLst []))),
    (sFor (.nm 3) (iE (eP (pIx (pV 0) (pC (.int 1))))) (sBlk [
      (sSet (.nm 4) (eFz (e2 opAdd (eP (pV 4)) (eComp [5] (.nm 5) (iE (eCall self_law_ends [.v (eP (pV 3)), .v (eP (pV 1)), .v (eP (pV 2))])) (tE (e2P opNotIn (eP (pV 5)) (pV 4))) (eP (pV 5))))))])),
    (sRet (e1 opSortM (eP (pV 4))))]) sNx),
  (sRet (eCall self_law_starred [.v (eP (pV 0)), .v (eP (pV 1)), .v (eP (pV 2))]))])
def body_law_starred (self_law_ends : FSem) (self_law_starred : FSem) : Stx := (sBlk [
  (sSet (.nm 3) (eFz (eLst []))),
  (sIf (tE (e2 opNe (eP (pIx (pV 0) (pC (.int 1)))) (eC (.str [43])))) (sBlk [
    (sSet (.nm 3) (eFz (e1 opListS (eP (pV 2)))))]) sNx),
  (sSet (.nm 4) (eFz (e1 opListS (eP (pV 2))))),
  (sSet (.nm 5) (eFz (eLst []))),
  (sFor (.nm 6) (iRange1 (e2 opAdd (e1P opLen (pV 1)) (eC (.int 2)))) (sBlk [
    (sIf (tAnd (tE (e2 opGt (e1P opLen (pV 4)) (eC (.int 0)))) (tOr (tE (e2 opEq (eP (pV 6)) (eC (.int 0)))) (tE (e2 opNe (eP (pIx (pV 0) (pC (.int 1)))) (eC (.str [63])))))) (sBlk [
      (sSet (.nm 7) (eFz (eCall self_law_ends [.v (eP (pIx (pV 0) (pC (.int 2)))), .v (eP (pV 1)), .v (eP (pV 4))]))),
      (sSet (.nm 4) (eFz (eComp [8] (.nm 8) (iE (eP (pV 7))) (tE (e2P opNotIn (eP (pV 8)) (pV 5))) (eP (pV 8))))),
      (sSet (.nm 5) (eFz (e2 opAdd (eP (pV 5)) (eP (pV 4)))))]) sNx)])),
  (sRet (e1 opSortM (e2 opAdd (eP (pV 3)) (eComp [8] (.nm 8) (iE (eP (pV 5))) (tE (e2P opNotIn (eP (pV 8)) (pV 3))) (eP (pV 8))))))])
mutual
def sem_law_ends : Nat → FSem
  | 0 => fun _ => .st
  | n + 1 => runDef 6 3 [] (body_law_ends (sem_law_ends n) (sem_law_starred n))
def sem_law_starred : Nat → FSem
  | 0 => fun _ => .st
  | n + 1 => runDef 9 3 [] (body_law_starred (sem_law_ends n) (sem_law_starred n))
end
def body_law_fits : Stx := (sBlk [
  (sRet (e2 opIn (e1P opLen (pV 1)) (eCall (sem_law_ends 12) [.v (eP (pV 0)), .v (eP (pV 1)), .v (eLst [(eC (.int 0))])])))])
def sem_law_fits : FSem := runDef 2 2 [] body_law_fits
def body_law_some_words : Stx := (sBlk [
  (sRet (e2 opAdd (eCall sem_law_words [.v (eP (pV 1)), .v (eP (pV 2))]) (eComp [4] (.nm 4) (iRange1 (eP (pV 3))) tT (eCall sem_law_word [.io 0, .v (eP (pV 1)), .v (eC (.int 14))]))))])
def sem_law_some_words : FSem := runDef 5 4 [0] body_law_some_words
def body_law : Stx := (sBlk [
  (sSet (.nm 1) (eLst [(eCall sem_law_row [.v (eP (pV 0)), .v (eC (.int 0)), .v (eC (.int 40))]), (eC (.int 0))])),
  (sFor (.nm 2) (iRange1 (eC (.int 4))) (sBlk [
    (sSet (.nm 3) (eFz (eCall sem_law_alphabet [.io 1, .v (e2 opAdd (eC (.int 1)) (eCall sem_law_draw [.io 1, .v (eC (.int 3))]))]))),
    (sSet (.nm 4) (eFz (eCall sem_law_pattern [.io 1, .v (eP (pV 3))]))),
    (sSet (.nm 5) (eFz (eCall (semMake "Pattern" sem_Pattern_init) [.v (eP (pV 3)), .v (eP (pIx (pV 4) (pC (.int 1))))]))),
    (sIf (tOr (tE (e2 opNe (eP (pFld (pV 5) "alphabet")) (eP (pV 3)))) (tE (e2 opNe (eP (pFld (pV 5) "text")) (eP (pIx (pV 4) (pC (.int 1))))))) (sBlk [
      (sRet (eC (.bl false)))]) sNx),
    (sFor (.nm 6) (iE (eCall sem_law_some_words [.io 1, .v (eP (pV 3)), .v (eC (.int 4)), .v (eC (.int 5))])) (sBlk [
      (sSet (.nm 7) (eFz (eCall sem_matches [.v (eP (pV 5)), .v (eP (pV 6))]))),
      (sIf (tOr (tNot (tE (e1 (opIsInst "bool") (eP (pV 7))))) (tE (e2 opNe (eP (pV 7)) (eCall sem_law_fits [.v (eP (pIx (pV 4) (pC (.int 0)))), .v (eP (pV 6))])))) (sBlk [
        (sRet (eC (.bl false)))]) sNx)]))])),
  (sRet (eC (.bl true)))])
def sem_law : FSem := runDef 8 1 [] body_law
end
end FA
namespace FA
def Ok {α : Type} (r : R α) (P : α → Env → Prop) : Prop := match r with
  | .ok a ρ => P a ρ
  | _ => False
section
variable {α β : Type} {P Q : α → Env → Prop} {ρ : Env}
theorem ok_ok {a : α} : Ok (.ok a ρ) P = P a ρ := rfl
theorem Ok.mono {r : R α} (h : Ok r P) (i : ∀ a ρ, P a ρ → Q a ρ) : Ok r Q := by
  cases r <;> first | exact i _ _ h | exact h
end
theorem opAdd_ii (a b : Int) : opAdd (.int a) (.int b) = some (intO (a + b)) := rfl
theorem opAdd_ss (a b : List Nat) : opAdd (.str a) (.str b) = if a.length + b.length ≤ line then some (.fz (.str (a ++ b))) else none := rfl
theorem opSub_ii (a b : Int) : opSub (.int a) (.int b) = some (intO (a - b)) := rfl
theorem opMul_r {b : Int} (h : smallI b = true) (a : Int) : opMulI (.int a) (.int b) = some (intO (a * b)) := by show (if smallI a || smallI b then some (intO (a * b)) else none) = _; rw [h, Bool.or_true]; rfl
theorem opMul_l {a : Int} (h : smallI a = true) (b : Int) : opMulI (.int a) (.int b) = some (intO (a * b)) := by show (if smallI a || smallI b then some (intO (a * b)) else none) = _; rw [h, Bool.true_or]; rfl
theorem sm5 : smallI 5 = true := by decide +kernel
theorem sm2 : smallI 2 = true := by decide +kernel
theorem sm69069 : smallI 69069 = true := by decide +kernel
theorem sm104729 : smallI 104729 = true := by decide +kernel
theorem opMod_ii (a b : Int) : opMod (.int a) (.int b) = if 0 < b then some (intO (a % b)) else none := rfl
theorem opFDiv_ii (a b : Int) : opFDiv (.int a) (.int b) = if 0 < b ∧ b < 1073741824 then some (intO (a / b)) else none := rfl
theorem opLt_ii (a b : Int) : opLt (.int a) (.int b) = some (boolO (decide (a < b))) := rfl
theorem opGt_ii (a b : Int) : opGt (.int a) (.int b) = some (boolO (decide (b < a))) := rfl
theorem opLe_ii (a b : Int) : opLe (.int a) (.int b) = some (boolO (decide (a ≤ b))) := rfl
theorem opGe_ii (a b : Int) : opGe (.int a) (.int b) = some (boolO (decide (b ≤ a))) := rfl
theorem opLen_l (ds : List D) : opLen (.lst ds) = some (intO ds.length) := rfl
theorem opLen_t (ds : List D) : opLen (.tup ds) = some (intO ds.length) := rfl
theorem opLen_c (ns : List Int) : opLen (.scr ns) = some (intO ns.length) := rfl
theorem opLen_s (s : List Nat) (h : s.length ≤ line) : opLen (.str s) = some (intO s.length) := by show (if s.length ≤ line then some s.length else none).map _ = _; rw [if_pos h]; rfl
theorem opInt_i (a : Int) : opInt (.int a) = some (intO a) := rfl
theorem opInt_b (a : Bool) : opInt (.bl a) = some (intO (if a then 1 else 0)) := rfl
theorem opAbs_i (i : Int) : opAbs (.int i) = some (intO (if i < 0 then -i else i)) := rfl
theorem itemO_l (os : List O) (i : Int) : itemO (.lst os) (.int i) = (idx os.length i).bind fun k => os[k]? := rfl
theorem itemO_f (d k : D) : itemO (.fz d) k = (itemD d k).map .fz := rfl
theorem appO_l (os : List O) (x : O) : appO (.lst os) x = if os.length < line then some (.lst (os ++ [x])) else none := rfl
theorem fr_f (d : D) : O.fr (.fz d) = d := rfl
theorem tru_b (b : Bool) : truD (.bl b) = some b := rfl
theorem idx_nat (n i : Nat) (h : i < n) : idx n (i : Int) = some i := by unfold idx; rw [if_pos (Int.natCast_nonneg i), if_pos (by simpa using h)]; simp
theorem oo_s {α : Type} (a : α) (ρ : Env) : ofOpt (some a) ρ = .ok a ρ := rfl
end FA
namespace FA
/-- so that what follows is not looked into before it is reached -/
inductive Dep {α : Type} (a : α) : Type
  | mk
def bindD {α β : Type} (r : R α) (k : α → Env → R β) (_ : Dep k) : R β := r.bind k
theorem bind_toD {α β : Type} (r : R α) (k : α → Env → R β) : r.bind k = bindD r k .mk := by rfl
theorem bd_ok {α β : Type} (a : α) (ρ : Env) (k : α → Env → R β) (u : Dep k) : bindD (.ok a ρ) k u = k a ρ := by rfl
theorem bd_st {α β : Type} (k : α → Env → R β) (u : Dep k) : bindD .st k u = .st := by rfl
theorem bd_exc {α β : Type} (x : String) (ds : List D) (ρ : Env) (k : α → Env → R β) (u : Dep k) : bindD (.exc x ds ρ) k u = .exc x ds ρ := by rfl
def rngM (y : O) (ρ : Env) : R (List D) := match y with
  | .fz (.int j) => if small62 j then .ok (rangeL 0 1 j.toNat) ρ else .st
  | _ => .st
def rngM2 (x y : O) (ρ : Env) : R (List D) := match x, y with
  | .fz (.int i), .fz (.int j) => if small62 i && small62 j then .ok (rangeL i 1 (j - i).toNat) ρ else .st
  | _, _ => .st
def dwnM (x y : O) (ρ : Env) : R (List D) := match x, y with
  | .fz (.int i), .fz (.int j) => if small62 i && small62 j then .ok (rangeL i (-1) (i - j).toNat) ρ else .st
  | _, _ => .st
section
variable (ρ : Env) (e a b c : Ex) (p q : Px) (f : Op1) (g g' : Op2) (t : Tgt) (tx tx' : Tx) (it : Itx) (s u : Stx) (i n : Nat) (d : D) (fl : String)
theorem x_pC : pC d ρ = some (.fz d) := by rfl
theorem x_pV : pV i ρ = match ρ[i]? with | some (some o) => some o | _ => none := by rfl
theorem x_pIx : pIx p q ρ = (p ρ).bind fun x => (q ρ).bind fun k => itemO x k.fr := by rfl
theorem x_pFld : pFld p fl ρ = (p ρ).bind fun x => fldO x fl := by rfl
theorem x_pLen : pLen p ρ = (p ρ).bind fun x => opLen x.fr := by rfl
theorem x_pOp : pOp g p q ρ = (p ρ).bind fun x => (q ρ).bind fun y => g x.fr y.fr := by rfl
theorem x_eC : eC d ρ = .ok (.fz d) ρ := by rfl
theorem x_eP : eP p ρ = match p ρ with | some (.fz d) => .ok (.fz d) ρ | _ => .st := by rfl
theorem x_eFrz : eFrz i ρ = match ρ[i]? with | some (some o) => .ok (.fz o.fr) (ρ.set i (some (.fz o.fr))) | _ => .st := by rfl
theorem x_e1 : e1 f a ρ = (a ρ).bind fun x ρ => ofOpt (f x.fr) ρ := by rfl
theorem x_e2 : e2 g a b ρ = (a ρ).bind fun x ρ => (b ρ).bind fun y ρ => ofOpt (g x.fr y.fr) ρ := by rfl
theorem x_eM (chk : D → Bool) : eM chk g a b ρ = (a ρ).bind fun x ρ => if chk x.fr then (b ρ).bind fun y ρ => ofOpt (g x.fr y.fr) ρ else .st := by rfl
theorem x_e2P : e2P g a p ρ = (a ρ).bind fun x ρ => match p ρ with | some y => ofOpt (g x.fr y.fr) ρ | none => .st := by rfl
theorem x_e1P : e1P f p ρ = match p ρ with | some x => ofOpt (f x.fr) ρ | none => .st := by rfl
theorem x_eFz : eFz a ρ = (a ρ).bind fun x ρ => .ok (.fz x.fr) ρ := by rfl
theorem x_eOpt0 : eOpt none ρ = .ok none ρ := by rfl
theorem x_eSl (lo hi : Option Ex) : eSl a lo hi ρ = (a ρ).bind fun x ρ => (eOpt lo ρ).bind fun i ρ => (eOpt hi ρ).bind fun j ρ => ofOpt (sliceD x.fr i j) ρ := by rfl
theorem x_eAll0 : eAll [] ρ = .ok [] ρ := by rfl
theorem x_eAll1 (r : List Ex) : eAll (e :: r) ρ = (e ρ).bind fun x ρ => (eAll r ρ).bind fun xs ρ => .ok (x :: xs) ρ := by rfl
theorem x_eLst (es : List Ex) : eLst es ρ = (eAll es ρ).bind fun xs ρ => .ok (.lst xs) ρ := by rfl
theorem x_eTup (es : List Ex) : eTup es ρ = (eAll es ρ).bind fun xs ρ => .ok (tupO xs) ρ := by rfl
theorem x_tE : tE a ρ = (a ρ).bind fun x ρ => ofOpt (truD x.fr) ρ := by rfl
theorem x_tP : tP p ρ = match p ρ with | some x => ofOpt (truD x.fr) ρ | none => .st := by rfl
theorem x_tAnd : tAnd tx tx' ρ = (tx ρ).bind fun x ρ => if x = true then tx' ρ else .ok false ρ := by rfl
theorem x_tOr : tOr tx tx' ρ = (tx ρ).bind fun x ρ => if x = true then .ok true ρ else tx' ρ := by rfl
theorem x_tNot : tNot tx ρ = (tx ρ).bind fun x ρ => .ok (!x) ρ := by rfl
theorem x_eAnd : eAnd a b ρ = (a ρ).bind fun x ρ => match x with | .fz (.bl true) => b ρ | .fz (.bl false) => .ok (boolO false) ρ | _ => .st := by rfl
theorem x_eOr : eOr a b ρ = (a ρ).bind fun x ρ => match x with | .fz (.bl false) => b ρ | .fz (.bl true) => .ok (boolO true) ρ | _ => .st := by rfl
theorem x_eNot : eNot a ρ = (a ρ).bind fun x ρ => match x with | .fz (.bl b) => .ok (boolO (!b)) ρ | _ => .st := by rfl
theorem x_eIf : eIf tx a b ρ = (tx ρ).bind fun x ρ => if x = true then a ρ else b ρ := by rfl
theorem x_eChain : eChain g g' a b c ρ = (a ρ).bind fun x ρ => (b ρ).bind fun y ρ => (ofOpt (g x.fr y.fr) ρ).bind fun z ρ => match z with
  | .fz (.bl true) => (c ρ).bind fun w ρ => ofOpt (g' y.fr w.fr) ρ
  | .fz (.bl false) => .ok (boolO false) ρ
  | _ => .st := by rfl
theorem x_asgnN (o : O) : asgn (.nm i) o ρ = if i < ρ.length then some (ρ.set i (some o)) else none := by rw [asgn]
theorem x_asgnT (ts : List Tgt) (ds : List D) : asgn (.tp ts) (.fz (.tup ds)) ρ = if ts.length = ds.length then asgns ts (ds.map .fz) ρ else none := by rw [asgn]
theorem x_asgnTO (ts : List Tgt) (os : List O) : asgn (.tp ts) (.tup os) ρ = if ts.length = os.length then asgns ts os ρ else none := by rw [asgn]
theorem x_asgns0 (os : List O) : asgns [] os ρ = some ρ := by rw [asgns]
theorem x_asgns1 (r : List Tgt) (o : O) (os : List O) : asgns (t :: r) (o :: os) ρ = (asgn t o ρ).bind (asgns r os) := by rw [asgns]
theorem x_iE : iE e ρ = (e ρ).bind fun x ρ => ofOpt (itemsD x.fr) ρ := by rfl
theorem x_iRange : iRange a b ρ = (a ρ).bind fun x ρ => (b ρ).bind fun y ρ => rngM2 x y ρ := by rfl
theorem x_iRange1 : iRange1 b ρ = (b ρ).bind fun y ρ => rngM y ρ := by rfl
theorem x_iDown : iDown a b ρ = (a ρ).bind fun x ρ => (b ρ).bind fun y ρ => dwnM x y ρ := by rfl
theorem x_iEnumL : iEnumL e ρ = (e ρ).bind fun x ρ => match x.fr with
  | .lst ds => .ok (enumL 0 ds) ρ
  | _ => .st := by rfl
theorem x_iZipL : iZipL a b ρ = (a ρ).bind fun x ρ => (b ρ).bind fun y ρ => match x.fr, y.fr with
  | .lst ds, .lst es => .ok (zipL ds es) ρ
  | _, _ => .st := by rfl
theorem x_eZipL : eZipL a b ρ = (iZipL a b ρ).bind fun xs ρ => .ok (.lst (xs.map .fz)) ρ := by rfl
theorem x_args0 : args [] ρ = .ok [] ρ := by rfl
theorem x_args1 (r : List Ar) : args (.v e :: r) ρ = (e ρ).bind fun x ρ => (args r ρ).bind fun xs ρ => .ok (some (.fz x.fr) :: xs) ρ := by rfl
theorem x_args2 (r : List Ar) : args (.io i :: r) ρ = match ρ[i]? with
    | some (some _) => (args r ρ).bind fun xs ρ => .ok (none :: xs) ρ
    | _ => .st := by rfl
theorem x_args3 (r : List Ar) : args (.mv e :: r) ρ = (e ρ).bind fun x ρ => (args r ρ).bind fun xs ρ => .ok (some x :: xs) ρ := by rfl
theorem x_fill0 (xs : List (Option O)) : fillA [] xs ρ = some [] := by rw [fillA]
theorem x_fill1 (r : List Ar) (x : O) (xs : List (Option O)) : fillA (.v e :: r) (some x :: xs) ρ = (fillA r xs ρ).map (x :: ·) := by rfl
theorem x_fill2 (r : List Ar) (x : Option O) (xs : List (Option O)) : fillA (.io i :: r) (x :: xs) ρ = match ρ[i]? with
    | some (some o) => (fillA r xs ρ).map (o :: ·)
    | _ => none := by rfl
theorem x_fill3 (r : List Ar) (x : O) (xs : List (Option O)) : fillA (.mv e :: r) (some x :: xs) ρ = (fillA r xs ρ).map (x :: ·) := by rfl
theorem x_back0 (outs : Env) : backA [] outs ρ = some ρ := by rfl
theorem x_back1 (r : List Ar) (outs : Env) : backA (.v e :: r) outs ρ = backA r outs ρ := by rfl
theorem x_back2 (r : List Ar) (o : O) (outs : Env) : backA (.io i :: r) (some o :: outs) ρ = if i < ρ.length then backA r outs (ρ.set i (some o)) else none := by rfl
theorem x_back3 (r : List Ar) (outs : Env) : backA (.mv e :: r) outs ρ = backA r outs ρ := by rfl
theorem x_ios0 : ios [] = [] := by rfl
theorem x_ios1 (r : List Ar) : ios (.v e :: r) = ios r := by rfl
theorem x_ios2 (r : List Ar) : ios (.io i :: r) = i :: ios r := by rfl
theorem x_ios3 (r : List Ar) : ios (.mv e :: r) = ios r := by rfl
theorem x_hide0 : hide [] ρ = ρ := by rfl
theorem x_hide1 (r : List Nat) : hide (i :: r) ρ = hide r (ρ.set i none) := by rfl
theorem x_eCall (fs : FSem) (as : List Ar) : eCall fs as ρ = (args as ρ).bind fun xs ρ => match fillA as xs ρ with
  | none => .st
  | some os => match fs os with
    | .ok o outs => match backA as outs (hide (ios as) ρ) with
      | some ρ' => .ok o ρ'
      | none => .st
    | .exc x ds outs => match backA as outs (hide (ios as) ρ) with
      | some ρ' => .exc x ds ρ'
      | none => .st
    | .st => .st := by rfl
theorem x_semMake (cn : String) (init : FSem) (os : List O) : semMake cn init os = match init (.ins cn [] :: os) with
  | .ok (.fz .non) (some o :: outs) => .ok o outs
  | .exc x ds (some _ :: outs) => .exc x ds outs
  | _ => .st := by rfl
theorem x_sNx : sNx ρ = .ok .nx ρ := by rfl
theorem x_blk0 : sBlk [] ρ = .ok .nx ρ := by rfl
theorem x_blk1 : sBlk [s] ρ = s ρ := by rfl
theorem x_blk2 (r : List Stx) : sBlk (s :: u :: r) ρ = (s ρ).bind fun f ρ => match f with | .nx => sBlk (u :: r) ρ | f => .ok f ρ := by rfl
theorem x_sSet : sSet t e ρ = (e ρ).bind fun x ρ => match asgn t x ρ with | some ρ => .ok .nx ρ | none => .st := by rfl
theorem x_sEx : sEx e ρ = (e ρ).bind fun _ ρ => .ok .nx ρ := by rfl
theorem x_sRet : sRet e ρ = (e ρ).bind fun x ρ => .ok (.ret x) ρ := by rfl
theorem x_sRetN : sRetN ρ = .ok (.ret (.fz .non)) ρ := by rfl
theorem x_sIf : sIf tx s u ρ = (tx ρ).bind fun x ρ => if x = true then s ρ else u ρ := by rfl
theorem x_sBrk : sBrk ρ = .ok .brk ρ := by rfl
theorem x_sFor : sFor t it s ρ = (it ρ).bind fun xs ρ => forL t s xs ρ := by rfl
theorem x_sWhile : sWhile n tx s ρ = whileL tx s n ρ := by rfl
/-- xs.append(e), xs a name's own list -/
theorem x_sApp : sApp (lV i) e ρ = match ρ[i]? with
  | some (some (.lst _)) => (e ρ).bind fun x ρ => match ρ[i]? with
    | some (some o) => match appO o x with
      | some o' => .ok .nx (ρ.set i (some o'))
      | none => .st
    | _ => .st
  | _ => .st := by
  unfold sApp lstAt lV atL atThen
  cases h : ρ[i]? with
  | none => simp [h]
  | some y =>
    cases y with
    | none => simp [h]
    | some o =>
      cases o with
      | lst os =>
        simp only [h, Option.bind_some, subO, if_true]
        show unitS ((e ρ).bind fun x ρ => match modL (i, []) (fun s => appO s x) ρ with | some ρ' => .ok () ρ' | none => .st) = _
        unfold unitS
        cases e ρ with
        | ok x ρ1 =>
          simp only [R.bind]
          unfold modL
          cases h1 : ρ1[i]? with
          | none => simp [h1, R.bind]
          | some y =>
            cases y with
            | none => simp [h1, R.bind]
            | some o =>
              simp only [h1, subO, Option.bind_some]
              cases h2 : appO o x with
              | none => simp [R.bind]
              | some o' => simp [R.bind, setO]
        | exc x ds ρ1 => rfl
        | st => rfl
      | fz d => simp [h, subO]
      | tup os => simp [h, subO]
      | dic ks => simp [h, subO]
      | ins c fs => simp [h, subO]
theorem x_sExt : sExt (lV i) e ρ = match ρ[i]? with
  | some (some (.lst _)) => (e ρ).bind fun x ρ => match ρ[i]? with
    | some (some o) => match extO o x with
      | some o' => .ok .nx (ρ.set i (some o'))
      | none => .st
    | _ => .st
  | _ => .st := by
  unfold sExt lstAt lV atL atThen
  cases h : ρ[i]? with
  | none => simp [h]
  | some y =>
    cases y with
    | none => simp [h]
    | some o =>
      cases o with
      | lst os =>
        simp only [h, Option.bind_some, subO, if_true]
        show unitS ((e ρ).bind fun x ρ => match modL (i, []) (fun s => extO s x) ρ with | some ρ' => .ok () ρ' | none => .st) = _
        unfold unitS
        cases e ρ with
        | ok x ρ1 =>
          simp only [R.bind]
          unfold modL
          cases h1 : ρ1[i]? with
          | none => simp [h1, R.bind]
          | some y =>
            cases y with
            | none => simp [h1, R.bind]
            | some o =>
              simp only [h1, subO, Option.bind_some]
              cases h2 : extO o x with
              | none => simp [R.bind]
              | some o' => simp [R.bind, setO]
        | exc x ds ρ1 => rfl
        | st => rfl
      | fz d => simp [h, subO]
      | tup os => simp [h, subO]
      | dic ks => simp [h, subO]
      | ins c fs => simp [h, subO]
theorem x_sSetF : sSetF (lV i) fl e ρ = (e ρ).bind fun x ρ => match ρ[i]? with
  | some (some o) => match setFldO fl x o with
    | some o' => .ok .nx (ρ.set i (some o'))
    | none => .st
  | _ => .st := by
  unfold sSetF lV modL
  cases e ρ with
  | ok x ρ1 =>
    simp only [R.bind]
    cases h1 : ρ1[i]? with
    | none => simp [h1]
    | some y =>
      cases y with
      | none => simp [h1]
      | some o =>
        simp only [h1, subO, Option.bind_some]
        cases h2 : setFldO fl x o with
        | none => simp
        | some o' => simp [setO]
  | exc x ds ρ1 => rfl
  | st => rfl
/-- name[k] = e -/
theorem x_sSetI : sSetI (lV i) a e ρ = (e ρ).bind fun x ρ => match ρ[i]? with
  | some (some _) => (a ρ).bind fun k ρ => match ρ[i]? with
    | some (some o) => match setItemO k.fr x o with
      | some o' => .ok .nx (ρ.set i (some o'))
      | none => .st
    | _ => .st
  | _ => .st := by
  unfold sSetI lV isAt atL atThen
  cases e ρ with
  | ok x ρ1 =>
    simp only [R.bind]
    cases h1 : ρ1[i]? with
    | none => simp [h1]
    | some y =>
      cases y with
      | none => simp [h1]
      | some o =>
        simp only [h1, subO, Option.bind_some, Option.isSome_some, if_true]
        unfold unitS
        cases a ρ1 with
        | ok k ρ2 =>
          simp only [R.bind]
          unfold modL
          cases h2 : ρ2[i]? with
          | none => simp [h2, R.bind]
          | some y =>
            cases y with
            | none => simp [h2, R.bind]
            | some o2 =>
              simp only [h2, subO, Option.bind_some]
              cases h3 : setItemO k.fr x o2 with
              | none => simp [R.bind]
              | some o' => simp [R.bind, setO]
        | exc x ds ρ1 => rfl
        | st => rfl
  | exc x ds ρ1 => rfl
  | st => rfl
theorem x_runDef (np : Nat) (io : List Nat) (os : List O) : runDef n np io s os =
  if os.length = np then
    (match s (os.map some ++ List.replicate (n - np) none) with
    | .ok f ρ => match f with
      | .nx => match outsOf io ρ with | some outs => .ok (.fz .non) outs | none => .st
      | .ret o => match outsOf io ρ with | some outs => .ok o outs | none => .st
      | .brk => .st
    | .exc x ds ρ => match outsOf io ρ with | some outs => .exc x ds outs | none => .st
    | .st => .st)
  else .st := by rfl
theorem x_outs0 : outsOf [] ρ = some [] := by rfl
theorem x_outs1 (r : List Nat) : outsOf (i :: r) ρ = match ρ[i]? with
  | some (some o) => (outsOf r ρ).map (some o :: ·)
  | _ => none := by rfl
end
theorem boolO_eq (b : Bool) : boolO b = .fz (.bl b) := by rfl
theorem intO_eq (b : Int) : intO b = .fz (.int b) := by rfl
theorem fr_lst (os : List O) : O.fr (.lst os) = .lst (frs os) := by rfl
theorem fr_tup (os : List O) : O.fr (.tup os) = .tup (frs os) := by rfl
theorem frs_nil : frs [] = [] := by rfl
theorem frs_cons (o : O) (r : List O) : frs (o :: r) = o.fr :: frs r := by rfl
theorem frs_mapfz : ∀ ds : List D, frs (ds.map .fz) = ds
  | [] => rfl
  | d :: r => by rw [List.map_cons, frs_cons, frs_mapfz r]; rfl
theorem frs_map {α : Type} (f : α → O) : ∀ ds : List α, frs (ds.map f) = ds.map fun d => (f d).fr
  | [] => rfl
  | d :: r => by rw [List.map_cons, List.map_cons, frs_cons, frs_map f r]
theorem frs_app : ∀ a b : List O, frs (a ++ b) = frs a ++ frs b
  | [], _ => rfl
  | o :: r, b => by rw [List.cons_append, frs_cons, frs_cons, frs_app r b]; rfl
theorem for_inv {S : Type} {t : Tgt} {body : Stx} (E : S → Env) (I : Nat → S → Prop) : ∀ {xs : List D} {s : S} (n : Nat), I n s →
    (∀ i d s, xs[i]? = some d → I (n + i) s → ∃ s', ((match asgn t (.fz d) (E s) with | some ρ1 => body ρ1 | none => .st) = .ok .nx (E s')) ∧ I (n + i + 1) s') →
    ∃ s', forL t body xs (E s) = .ok .nx (E s') ∧ I (n + xs.length) s'
  | [], s, n, h0, _ => ⟨s, rfl, h0⟩
  | d :: r, s, n, h0, hs => by
    obtain ⟨s1, e1, h1⟩ := hs 0 d s rfl h0
    obtain ⟨s2, e2, h2⟩ := for_inv E I (xs := r) (s := s1) (n + 1) h1 (fun i d s hi hI => by
      have := hs (i + 1) d s (by simpa using hi) (by rw [show n + (i + 1) = n + 1 + i by omega]; exact hI)
      rw [show n + (i + 1) = n + 1 + i by omega] at this
      exact this)
    refine ⟨s2, ?_, by rw [show n + (d :: r).length = n + 1 + r.length by simp; omega]; exact h2⟩
    unfold forL
    cases ha : asgn t (.fz d) (E s) with
    | none => rw [ha] at e1; cases e1
    | some ρ1 =>
      rw [ha] at e1
      have e1 : body ρ1 = .ok .nx (E s1) := e1
      simp only [e1, R.bind]
      exact e2
theorem p_hide_get : ∀ (own : List Nat) (ρ : Env) (j : Nat), (hide own ρ)[j]? = if j ∈ own ∧ j < ρ.length then some none else ρ[j]?
  | [], ρ, j => by simp [hide]
  | i :: r, ρ, j => by
    rw [x_hide1, p_hide_get r, List.length_set, List.getElem?_set]
    by_cases h1 : j ∈ r
    · by_cases h2 : j < ρ.length
      · simp [h1, h2]
      · have : ρ[j]? = none := List.getElem?_eq_none (by omega)
        by_cases h3 : i = j
        · subst h3; simp [h2]
        · simp [h1, h2, h3]
    · by_cases h3 : i = j
      · subst h3
        by_cases h2 : i < ρ.length
        · simp [h1, h2]
        · have : ρ[i]? = none := List.getElem?_eq_none (by omega)
          simp [h1, h2]
      · have : ¬ (j = i) := fun z => h3 z.symm
        simp [h1, h3, this]
theorem p_unhide_get : ∀ (own : List Nat) (ρ₀ ρ : Env) (j : Nat), (unhide own ρ₀ ρ)[j]? = if j ∈ own ∧ j < ρ.length then some (match ρ₀[j]? with | some o => o | none => none) else ρ[j]?
  | [], ρ₀, ρ, j => by simp [unhide]
  | i :: r, ρ₀, ρ, j => by
    show (unhide r ρ₀ (ρ.set i _))[j]? = _
    rw [p_unhide_get r, List.length_set, List.getElem?_set]
    by_cases h1 : j ∈ r
    · by_cases h2 : j < ρ.length
      · simp [h1, h2]
      · have : ρ[j]? = none := List.getElem?_eq_none (by omega)
        by_cases h3 : i = j
        · subst h3; simp [h2]
        · simp [h1, h2, h3]
    · by_cases h3 : i = j
      · subst h3
        by_cases h2 : i < ρ.length
        · simp [h1, h2]
          try rfl
        · have : ρ[i]? = none := List.getElem?_eq_none (by omega)
          simp [h1, h2]
      · have : ¬ (j = i) := fun z => h3 z.symm
        simp [h1, h3, this]
theorem p_hide_len (own : List Nat) : ∀ ρ : Env, (hide own ρ).length = ρ.length := by
  induction own with
  | nil => intro ρ; rfl
  | cons i r ih => intro ρ; rw [x_hide1, ih, List.length_set]
theorem unhide_eq {own : List Nat} {ρ₀ ρ : Env} (h : hide own ρ = hide own ρ₀) : unhide own ρ₀ ρ = ρ₀ := by
  have hl : ρ.length = ρ₀.length := by rw [← p_hide_len own ρ, h, p_hide_len]
  apply List.ext_getElem?
  intro j
  rw [p_unhide_get]
  by_cases hj : j ∈ own ∧ j < ρ.length
  · rw [if_pos hj]
    have : j < ρ₀.length := by omega
    rw [List.getElem?_eq_getElem this]
  · rw [if_neg hj]
    have := congrArg (·[j]?) h
    simp only [p_hide_get] at this
    rw [if_neg hj, if_neg (by rw [← hl]; exact hj)] at this
    exact this
end FA
namespace FA
theorem inst_str_s (s : List Nat) : opIsInst "str" (.str s) = some (.fz (.bl true)) := by rfl
theorem isS_s (s : List Nat) : isS (.str s) = true := by rfl
theorem isSL_s (s : List Nat) : isSL (.str s) = true := by rfl
theorem isSL_l (s : List D) : isSL (.lst s) = true := by rfl
theorem itemsD_l (ds : List D) : itemsD (.lst ds) = some ds := by rfl
theorem itemsD_t (ds : List D) : itemsD (.tup ds) = some ds := by rfl
theorem itemsD_s (s : List Nat) : itemsD (.str s) = some (s.map fun c => .str [c]) := by rfl
theorem opItem_x (a b : D) : opItem a b = (itemD a b).map .fz := by rfl
theorem opAll_x (ds : List D) : opAll (.lst ds) = (boolsOf ds).map fun l => boolO (l.all id) := by rfl
theorem fldO_f (c : String) (fs : List (String × D)) (f : String) : fldO (.fz (.ins c fs)) f = (getF fs f).map .fz := by rfl
theorem fldO_i (c : String) (fs : List (String × O)) (f : String) : fldO (.ins c fs) f = getF fs f := by rfl
def dN (n : Nat) : D := .int n
abbrev dNs (l : List Nat) : D := .lst (l.map dN)
abbrev dNss (l : List (List Nat)) : D := .lst (l.map dNs)
end FA
namespace FA
theorem y_lit (n : Nat) : D.int (no_index (@OfNat.ofNat Int n _)) = dN (@OfNat.ofNat Nat n _) := by rfl
theorem y_cast (n : Nat) : D.int (n : Int) = dN n := by rfl
theorem y_addN (a b : Nat) : opAdd (dN a) (dN b) = some (.fz (dN (a + b))) := by show some (intO ((a : Int) + (b : Int))) = _; rw [← Int.natCast_add]; rfl
theorem y_addIN (a b : Nat) : opAddI (dN a) (dN b) = some (.fz (dN (a + b))) := by show some (intO ((a : Int) + (b : Int))) = _; rw [← Int.natCast_add]; rfl
theorem sub_dN {a b : Nat} (h : b ≤ a) : opSub (dN a) (dN b) = some (.fz (dN (a - b))) := by show some (intO ((a : Int) - (b : Int))) = _; rw [← Int.natCast_sub h]; rfl
theorem y_mulN5 (a : Nat) : opMulI (dN a) (dN 5) = some (.fz (dN (a * 5))) := by
  show opMulI (.int a) (.int (5 : Nat)) = _
  rw [opMul_r (by decide +kernel)]
  show some (intO ((a : Int) * (5 : Nat))) = _
  rw [← Int.natCast_mul]; rfl
theorem y_ltN (a b : Nat) : opLt (dN a) (dN b) = some (.fz (.bl (decide (a < b)))) := by
  show some (boolO (decide ((a : Int) < (b : Int)))) = _
  have : decide ((a : Int) < (b : Int)) = decide (a < b) := by rw [decide_eq_decide]; omega
  rw [this]; rfl
theorem y_gtN (a b : Nat) : opGt (dN a) (dN b) = some (.fz (.bl (decide (b < a)))) := by
  show some (boolO (decide ((b : Int) < (a : Int)))) = _
  have : decide ((b : Int) < (a : Int)) = decide (b < a) := by rw [decide_eq_decide]; omega
  rw [this]; rfl
theorem y_leN (a b : Nat) : opLe (dN a) (dN b) = some (.fz (.bl (decide (a ≤ b)))) := by
  show some (boolO (decide ((a : Int) ≤ (b : Int)))) = _
  have : decide ((a : Int) ≤ (b : Int)) = decide (a ≤ b) := by rw [decide_eq_decide]; omega
  rw [this]; rfl
theorem y_geN (a b : Nat) : opGe (dN a) (dN b) = some (.fz (.bl (decide (b ≤ a)))) := by
  show some (boolO (decide ((b : Int) ≤ (a : Int)))) = _
  have : decide ((b : Int) ≤ (a : Int)) = decide (b ≤ a) := by rw [decide_eq_decide]; omega
  rw [this]; rfl
theorem dN_eq (a b : Nat) : eqv (dN a) (dN b) = decide (a = b) := by
  unfold dN eqv
  rw [Bool.eq_iff_iff]; simp
  try omega
theorem y_eqN (a b : Nat) : opEq (dN a) (dN b) = some (.fz (.bl (decide (a = b)))) := by
  show (if eqOk (dN a) (dN b) then some (boolO (eqv (dN a) (dN b))) else none) = _
  rw [dN_eq]; rfl
theorem y_neN (a b : Nat) : opNe (dN a) (dN b) = some (.fz (.bl (!decide (a = b)))) := by
  show (if eqOk (dN a) (dN b) then some (boolO (!eqv (dN a) (dN b))) else none) = _
  rw [dN_eq]; rfl
theorem y_intN (a : Nat) : opInt (dN a) = some (.fz (dN a)) := by rfl
theorem y_intB (a : Bool) : opInt (.bl a) = some (.fz (dN (if a then 1 else 0))) := by cases a <;> rfl
theorem y_truN (a : Nat) : truD (dN a) = some (decide (a ≠ 0)) := by
  show some ((a : Int) != 0) = _
  congr 1
  rw [Bool.eq_iff_iff]; simp
theorem y_instI (a : Nat) : opIsInst "int" (dN a) = some (.fz (.bl true)) := by rfl
theorem y_instIB (a : Nat) : opIsInst "bool" (dN a) = some (.fz (.bl false)) := by rfl
theorem y_instIS (a : Nat) : opIsInst "str" (dN a) = some (.fz (.bl false)) := by rfl
theorem y_instL (a : List D) : opIsInst "list" (.lst a) = some (.fz (.bl true)) := by rfl
theorem y_lenL (l : List D) : opLen (.lst l) = some (.fz (dN l.length)) := by rfl
theorem y_lenT (l : List D) : opLen (.tup l) = some (.fz (dN l.length)) := by rfl
theorem y_len_map {α β : Type} (f : α → β) (l : List α) : (l.map f).length = l.length := List.length_map f
theorem len_str {s : List Nat} (h : s.length ≤ line) : opLen (.str s) = some (.fz (dN s.length)) := opLen_s s h
theorem item_map {α : Type} {f : α → D} {l : List α} {i : Nat} (a : α) (h : i < l.length) : itemD (.lst (l.map f)) (dN i) = some (f (l.getD i a)) := by
  show (idx (l.map f).length (i : Int)).bind _ = _
  rw [List.length_map, idx_nat _ _ h]
  simp [h]
theorem item_lst {l : List D} {i : Nat} (a : D) (h : i < l.length) : itemD (.lst l) (dN i) = some (l.getD i a) := by
  show (idx l.length (i : Int)).bind _ = _
  rw [idx_nat _ _ h]
  simp [h]
theorem item_str {s : List Nat} {i : Nat} (h : i < s.length) (hl : s.length ≤ line) : itemD (.str s) (dN i) = some (.str [s.getD i 0]) := by
  show (if s.length ≤ line then (idx s.length (i : Int)).bind _ else none) = _
  rw [if_pos hl, idx_nat _ _ h]
  simp [h]
theorem idx_last (n : Nat) (h : 0 < n) : idx n (-1) = some (n - 1) := by
  unfold idx
  rw [if_neg (by decide), if_pos (by simp; omega)]
  rfl
theorem y_item0 (d : D) (r : List D) : itemD (.lst (d :: r)) (dN 0) = some d := item_lst (l := d :: r) d (i := 0) (by simp)
theorem y_item1 (d d1 : D) (r : List D) : itemD (.lst (d :: d1 :: r)) (dN 1) = some d1 := item_lst (l := d :: d1 :: r) d (i := 1) (by simp)
theorem y_item2 (d d1 d2 : D) (r : List D) : itemD (.lst (d :: d1 :: d2 :: r)) (dN 2) = some d2 := item_lst (l := d :: d1 :: d2 :: r) d (i := 2) (by simp)
theorem y_item3 (d d1 d2 d3 : D) (r : List D) : itemD (.lst (d :: d1 :: d2 :: d3 :: r)) (dN 3) = some d3 := item_lst (l := d :: d1 :: d2 :: d3 :: r) d (i := 3) (by simp)
theorem y_item4 (d d1 d2 d3 d4 : D) (r : List D) : itemD (.lst (d :: d1 :: d2 :: d3 :: d4 :: r)) (dN 4) = some d4 := item_lst (l := d :: d1 :: d2 :: d3 :: d4 :: r) d (i := 4) (by simp)
theorem y_itemO0 (d : O) (r : List O) : itemO (.lst (d :: r)) (dN 0) = some d := by rfl
theorem itemO_lst {l : List O} {i : Nat} (a : O) (h : i < l.length) : itemO (.lst l) (dN i) = some (l.getD i a) := by
  show (idx l.length (i : Int)).bind _ = _
  rw [idx_nat _ _ h]
  simp [h]
theorem y_itemO1 (d d1 : O) (r : List O) : itemO (.lst (d :: d1 :: r)) (dN 1) = some d1 := itemO_lst (l := d :: d1 :: r) d (i := 1) (by simp)
theorem y_app (os : List O) (x : O) : appO (.lst os) x = if os.length < line then some (.lst (os ++ [x])) else none := by rfl
theorem y_ext (os : List O) (ds : List D) : extO (.lst os) (.fz (.lst ds)) = if os.length + ds.length ≤ line then some (.lst (os ++ ds.map .fz)) else none := by rfl
theorem y_extO (os os2 : List O) : extO (.lst os) (.lst os2) = if os.length + os2.length ≤ line then some (.lst (os ++ (frs os2).map .fz)) else none := by
  show (if os.length + (frs os2).length ≤ line then _ else _) = _
  have : (frs os2).length = os2.length := by induction os2 with | nil => rfl | cons a r ih => simp [frs_cons, ih]
  rw [this]
theorem y_opList (ds : List D) : opListS (.lst ds) = some (.lst (ds.map .fz)) := by rfl
theorem y_opListT (ds : List D) : opListS (.tup ds) = some (.lst (ds.map .fz)) := by rfl
theorem y_opTuple (ds : List D) : opTuple (.lst ds) = some (.fz (.tup ds)) := by rfl
theorem y_opTupleT (ds : List D) : opTuple (.tup ds) = some (.fz (.tup ds)) := by rfl
theorem y_revL (ds : List D) : opRevL (.lst ds) = some (.lst (ds.reverse.map .fz)) := by rfl
theorem y_frsfz {α : Type} (f : α → D) (l : List α) : frs (l.map fun x => O.fz (f x)) = l.map f := by rw [frs_map]; rfl
theorem y_addT (a b : List D) : opAdd (.tup a) (.tup b) = if a.length + b.length ≤ line then some (.fz (.tup (a ++ b))) else none := by rfl
theorem y_addL (a b : List D) : opAdd (.lst a) (.lst b) = if a.length + b.length ≤ line then some (.lst ((a ++ b).map .fz)) else none := by rfl
theorem add_str {a b : List Nat} (h : a.length + b.length ≤ line) : opAdd (.str a) (.str b) = some (.fz (.str (a ++ b))) := by rw [opAdd_ss, if_pos h]
theorem rangeL_map : ∀ (n a : Nat), rangeL (a : Int) 1 n = (List.range' a n).map dN
  | 0, _ => rfl
  | n + 1, a => by
    show D.int (a : Int) :: rangeL ((a : Int) + 1) 1 n = _
    have : ((a : Int) + 1) = ((a + 1 : Nat) : Int) := by omega
    rw [this, rangeL_map n (a + 1), List.range'_succ]
    rfl
theorem small_dec (n : Nat) : small62 (n : Int) = decide (n < 4611686018427387904) := by
  unfold small62; rw [decide_eq_decide]; simp
theorem y_rng (n : Nat) (ρ : Env) : rngM (.fz (dN n)) ρ = if n < 4611686018427387904 then .ok ((List.range n).map dN) ρ else .st := by
  show (if small62 (n : Int) = true then R.ok (rangeL 0 1 (n : Int).toNat) ρ else .st) = _
  rw [small_dec, Int.toNat_natCast]
  have := rangeL_map n 0
  rw [List.range_eq_range']
  by_cases q : n < 4611686018427387904
  · rw [if_pos (by simpa using q), if_pos q]
    exact congrArg (fun z => R.ok z ρ) this
  · rw [if_neg (by simpa using q), if_neg q]
theorem y_rng2 (m n : Nat) (ρ : Env) : rngM2 (.fz (dN m)) (.fz (dN n)) ρ = if m < 4611686018427387904 then (if n < 4611686018427387904 then .ok ((List.range' m (n - m)).map dN) ρ else .st) else .st := by
  show (if (small62 (m : Int) && small62 (n : Int)) = true then R.ok (rangeL m 1 ((n : Int) - (m : Int)).toNat) ρ else .st) = _
  have : ((n : Int) - (m : Int)).toNat = n - m := by omega
  rw [small_dec, small_dec, this, rangeL_map]
  by_cases q : m < 4611686018427387904
  · by_cases q2 : n < 4611686018427387904
    · simp [q, q2]
    · simp [q, q2]
  · simp [q]
/-- m, m - 1, .., behind n -/
theorem rangeL_dn : ∀ (n a : Nat), n ≤ a + 1 → rangeL (a : Int) (-1) n = ((List.range n).map fun i => dN (a - i))
  | 0, _, _ => rfl
  | n + 1, a, h => by
    show D.int (a : Int) :: rangeL ((a : Int) + -1) (-1) n = _
    rw [List.range_succ_eq_map, List.map_cons, List.map_map]
    congr 1
    cases a with
    | zero =>
      have : n = 0 := by omega
      subst this
      rfl
    | succ a =>
      have : ((a + 1 : Nat) : Int) + -1 = (a : Int) := by omega
      rw [this, rangeL_dn n a (by omega)]
      apply List.map_congr_left
      intro i _
      simp only [Function.comp]
      congr 1
      omega
/-- range(n - 1, -1, -1) -/
theorem y_dwn (n : Nat) (ρ : Env) : dwnM (.fz (.int ((n : Int) - 1))) (.fz (.int (-1))) ρ = if n ≤ 4611686018427387904 then .ok ((List.range n).map fun i => dN (n - 1 - i)) ρ else .st := by
  show (if (small62 ((n : Int) - 1) && small62 (-1)) = true then R.ok (rangeL ((n : Int) - 1) (-1) (((n : Int) - 1) - (-1)).toNat) ρ else .st) = _
  have h1 : (((n : Int) - 1) - (-1)).toNat = n := by omega
  rw [h1]
  cases n with
  | zero => rfl
  | succ n =>
    have h2 : (((n + 1 : Nat) : Int) - 1) = (n : Int) := by omega
    rw [h2, rangeL_dn (n + 1) n (by omega), small_dec]
    have h3 : small62 (-1) = true := by decide
    rw [h3, Bool.and_true]
    by_cases q : n < 4611686018427387904
    · rw [if_pos (by simpa using q), if_pos (by omega)]
      rfl
    · rw [if_neg (by simpa using q), if_neg (by omega)]
theorem for_of {S : Type} {t : Tgt} {body : Stx} {xs : List D} {ρ : Env} {r : R Flow} (hf : forL t body xs ρ = r) (E : S → Env) (I : Nat → S → Prop) (s : S) (he : ρ = E s) (h0 : I 0 s)
    (hs : ∀ i d s, xs[i]? = some d → I i s → ∃ s', ((match asgn t (.fz d) (E s) with | some ρ1 => body ρ1 | none => .st) = .ok .nx (E s')) ∧ I (i + 1) s') :
    ∃ s', r = .ok .nx (E s') ∧ I xs.length s' := by
  subst he
  obtain ⟨s', e, h⟩ := for_inv E I (xs := xs) (s := s) 0 h0 (fun i d s hi hI => by
    rw [Nat.zero_add] at hI ⊢
    exact hs i d s hi hI)
  rw [Nat.zero_add] at h
  exact ⟨s', hf.symm.trans e, h⟩
theorem map_at {α β : Type} {f : α → β} {l : List α} {i : Nat} {b : β} (h : (l.map f)[i]? = some b) : ∃ a, l[i]? = some a ∧ f a = b := by
  rw [List.getElem?_map] at h
  exact Option.map_eq_some_iff.mp h
theorem take_at {α : Type} {l : List α} {i : Nat} {a : α} (h : l[i]? = some a) : l.take (i + 1) = l.take i ++ [a] := by
  rw [List.take_add_one, h]; rfl
theorem range_at {n i k : Nat} (h : (List.range n)[i]? = some k) : k = i ∧ i < n := by
  obtain ⟨h1, h2⟩ := List.getElem?_eq_some_iff.mp h
  rw [List.getElem_range] at h2
  rw [List.length_range] at h1
  exact ⟨h2.symm, h1⟩
theorem getD_mem {α : Type} {l : List α} {i : Nat} (d : α) (h : i < l.length) : l.getD i d ∈ l := by
  rw [List.getD_eq_getElem?_getD, List.getElem?_eq_getElem h]; exact List.getElem_mem h
theorem hasSub_one (c : Nat) : ∀ s : List Nat, hasSub [c] s = s.contains c
  | [] => rfl
  | d :: r => by
    unfold hasSub
    rw [hasSub_one c r]
    simp only [prefixB, List.contains_cons, Bool.and_true]
theorem y_inS (c : Nat) (s : List Nat) : opIn (.str [c]) (.str s) = some (.fz (.bl (s.contains c))) := by
  show (some (hasSub [c] s)).map boolO = _
  rw [hasSub_one]; rfl
theorem y_ninS (c : Nat) (s : List Nat) : opNotIn (.str [c]) (.str s) = some (.fz (.bl (!s.contains c))) := by
  show (some (hasSub [c] s)).map (fun x => boolO (!x)) = _
  rw [hasSub_one]; rfl
theorem y_countS (c : Nat) (s : List Nat) : opCount (.str s) (.str [c]) = some (.fz (dN (s.countP fun d => d == c))) := by rfl
theorem bools_of {α : Type} (f : α → Bool) : ∀ l : List α, boolsOf (l.map fun c => .bl (f c)) = some (l.map f)
  | [] => rfl
  | a :: r => by show (boolsOf (r.map _)).map _ = _; rw [bools_of f r]; rfl
theorem y_frsfr {α : Type} (f : α → O) (l : List α) : frs (l.map f) = l.map fun x => (f x).fr := frs_map f l
theorem index_str {s : List Nat} {c k : Nat} (h : findN s c = some k) : opIndex (.str s) (.str [c]) = some (.fz (dN k)) := by
  show (findN s c).map _ = _
  rw [h]; rfl
theorem strs_of {α : Type} (f : α → List Nat) : ∀ l : List α, strsOf (l.map fun c => .str (f c)) = some (l.map f)
  | [] => rfl
  | a :: r => by show (strsOf (r.map _)).map _ = _; rw [strs_of f r]; rfl
theorem joinL_nil : ∀ l : List (List Nat), joinL [] l = l.flatten
  | [] => rfl
  | [x] => by simp [joinL]
  | x :: y :: r => by
    show x ++ [] ++ joinL [] (y :: r) = _
    rw [joinL_nil (y :: r)]; simp
theorem sizeL_nil : ∀ l : List (List Nat), sizeL [] l = l.flatten.length
  | [] => rfl
  | x :: r => by simp [sizeL, sizeL_nil r]
/-- "".join of texts -/
theorem join_of {α : Type} {f : α → List Nat} {l : List α} (h : (l.map f).flatten.length ≤ line) : opJoin (.str []) (.lst (l.map fun c => .str (f c))) = some (.fz (.str (l.map f).flatten)) := by
  show ((strsOf (l.map fun c => .str (f c))).bind fun l => if sizeL [] l ≤ line then some (O.fz (.str (joinL [] l))) else none) = _
  rw [strs_of]
  show (if sizeL [] (l.map f) ≤ line then _ else _) = _
  rw [sizeL_nil, if_pos h, joinL_nil]
theorem flat1 {α : Type} (f : α → Nat) : ∀ l : List α, (l.map fun c => [f c]).flatten = l.map f
  | [] => rfl
  | a :: r => by simp [flat1 f r]
/-- .. of single signs -/
theorem join_one {α : Type} {f : α → Nat} {l : List α} (h : l.length ≤ line) : opJoin (.str []) (.lst (l.map fun c => .str [f c])) = some (.fz (.str (l.map f))) := by
  have := join_of (f := fun c => [f c]) (l := l) (by rw [flat1]; simpa using h)
  rw [flat1] at this
  exact this
theorem comp_allS {α : Type} {own : List Nat} {t : Tgt} {it : Itx} {ce : Ex} {ρ : Env} {l : List α} (g : α → D) (f : α → O) (hit : it ρ = .ok (l.map g) ρ) (hf : ownFree own ρ = true) (hx : l.length ≤ line)
    (h : ∀ a, a ∈ l → ∃ ρ1, asgn t (.fz (g a)) (hide own ρ) = some ρ1 ∧ ce ρ1 = .ok (f a) ρ1 ∧ hide own ρ1 = hide own ρ) : eComp own t it tT ce ρ = .ok (.lst (l.map f)) ρ := by
  have key : ∀ {l : List α} {ρ' : Env} {acc : List O}, acc.length + l.length ≤ line → hide own ρ' = hide own ρ → (∀ a, a ∈ l → ∃ ρ1, asgn t (.fz (g a)) (hide own ρ) = some ρ1 ∧ ce ρ1 = .ok (f a) ρ1 ∧ hide own ρ1 = hide own ρ) →
      ∃ ρ2, compG own t tT (push ce) (l.map g) ρ' acc = .ok (acc ++ l.map f) ρ2 ∧ hide own ρ2 = hide own ρ := by
    intro l
    induction l with
    | nil => intro ρ' acc _ hh _; exact ⟨ρ', by unfold compG; simp, hh⟩
    | cons a r ih =>
      intro ρ' acc hz hh h
      obtain ⟨ρ1, a1, e1, h1⟩ := h a (List.mem_cons_self ..)
      obtain ⟨ρ2, e2, h2⟩ := ih (ρ' := ρ1) (acc := acc ++ [f a]) (by simp at hz ⊢; omega) h1 fun d hd => h d (List.mem_cons_of_mem _ hd)
      refine ⟨ρ2, ?_, h2⟩
      rw [List.map_cons]
      unfold compG
      rw [hh, a1]
      simp only [tT, R.ne, R.bind, if_true, push, e1]
      rw [if_pos (by simp at hz; omega)]
      simp only [R.ne, R.bind]
      rw [e2]
      simp
  obtain ⟨ρ2, e, h2⟩ := key (l := l) (ρ' := ρ) (acc := []) (by simpa using hx) rfl h
  unfold eComp
  rw [hit]
  simp only [R.bind, hf, Bool.not_true, Bool.false_eq_true, if_false, e, List.nil_append]
  rw [unhide_eq h2]
/-- .. where each element changes the state -/
theorem comp_stS {α S : Type} {own : List Nat} {t : Tgt} {it : Itx} {ce : Ex} {l : List α} (g : α → D) (E : S → Env) (s : S) {ρ : Env} (Rp : List O → S → Prop) (hit : it ρ = .ok (l.map g) (E s)) (hf : ∀ s, ownFree own (E s) = true) (hx : l.length ≤ line) (h0 : Rp [] s)
    (h : ∀ a acc s, a ∈ l → acc.length < l.length → Rp acc s → ∃ ρ1 o s' ρ2, asgn t (.fz (g a)) (hide own (E s)) = some ρ1 ∧ ce ρ1 = .ok o ρ2 ∧ hide own ρ2 = hide own (E s') ∧ Rp (acc ++ [o]) s') (hu : ∀ s s', unhide own (E s) (hide own (E s')) = E s') :
    ∃ os s', os.length = l.length ∧ Rp os s' ∧ eComp own t it tT ce ρ = .ok (.lst os) (E s') := by
  have key : ∀ {r : List α} {s : S} {ρ' : Env} {acc : List O}, acc.length + r.length = l.length → (∀ a ∈ r, a ∈ l) → hide own ρ' = hide own (E s) → Rp acc s →
      ∃ os s' ρ2, os.length = l.length ∧ Rp os s' ∧ compG own t tT (push ce) (r.map g) ρ' acc = .ok os ρ2 ∧ hide own ρ2 = hide own (E s') := by
    intro r
    induction r with
    | nil => intro s ρ' acc hz _ hh hr; exact ⟨acc, s, ρ', by simpa using hz, hr, by unfold compG; simp, hh⟩
    | cons a r ih =>
      intro s ρ' acc hz hm hh hr
      obtain ⟨ρ1, o, s', ρ2, a1, e1, h1, hr1⟩ := h a acc s (hm a (List.mem_cons_self ..)) (by simp at hz; omega) hr
      obtain ⟨os, s'', ρ3, l3, r3, e3, h3⟩ := ih (s := s') (ρ' := ρ2) (acc := acc ++ [o]) (by simp at hz ⊢; omega) (fun b hb => hm b (List.mem_cons_of_mem _ hb)) h1 hr1
      refine ⟨os, s'', ρ3, l3, r3, ?_, h3⟩
      rw [List.map_cons]
      unfold compG
      rw [hh, a1]
      simp only [tT, R.ne, R.bind, if_true, push, e1]
      rw [if_pos (by simp at hz; omega)]
      simp only [R.ne, R.bind]
      rw [e3]
  obtain ⟨os, s', ρ2, l2, r2, e, h2⟩ := key (r := l) (s := s) (ρ' := E s) (acc := []) (by simp) (fun _ h => h) rfl h0
  refine ⟨os, s', l2, r2, ?_⟩
  unfold eComp
  rw [hit]
  simp only [R.bind, hf, Bool.not_true, Bool.false_eq_true, if_false, e]
  have : unhide own (E s) ρ2 = E s' := by
    rw [← hu s s', ← h2]
    apply List.ext_getElem?
    intro j
    rw [p_unhide_get, p_unhide_get, p_hide_len, p_hide_get]
    by_cases hj : j ∈ own ∧ j < ρ2.length
    · rw [if_pos hj, if_pos hj]
    · rw [if_neg hj, if_neg hj, if_neg hj]
  rw [this]
theorem comp_of {α : Type} {own : List Nat} {t : Tgt} {it : Itx} {ce : Ex} {ρ : Env} {r : R O} (hc : eComp own t it tT ce ρ = r) {l : List α} (g : α → D) (f : α → O) (hit : it ρ = .ok (l.map g) ρ) (hf : ownFree own ρ = true) (hx : l.length ≤ line)
    (h : ∀ a, a ∈ l → ∃ ρ1, asgn t (.fz (g a)) (hide own ρ) = some ρ1 ∧ ce ρ1 = .ok (f a) ρ1 ∧ hide own ρ1 = hide own ρ) : r = .ok (.lst (l.map f)) ρ := hc.symm.trans (comp_allS g f hit hf hx h)
theorem comp_st_of {α S : Type} {own : List Nat} {t : Tgt} {it : Itx} {ce : Ex} {ρ : Env} {r : R O} (hc : eComp own t it tT ce ρ = r) {l : List α} (g : α → D) (E : S → Env) (s : S) (Rp : List O → S → Prop) (hit : it ρ = .ok (l.map g) (E s)) (hf : ∀ s, ownFree own (E s) = true) (hx : l.length ≤ line) (h0 : Rp [] s)
    (h : ∀ a acc s, a ∈ l → acc.length < l.length → Rp acc s → ∃ ρ1 o s' ρ2, asgn t (.fz (g a)) (hide own (E s)) = some ρ1 ∧ ce ρ1 = .ok o ρ2 ∧ hide own ρ2 = hide own (E s') ∧ Rp (acc ++ [o]) s') (hu : ∀ s s', unhide own (E s) (hide own (E s')) = E s') :
    ∃ os s', r = .ok (.lst os) (E s') ∧ os.length = l.length ∧ Rp os s' := by
  obtain ⟨os, s', h1, h2, h3⟩ := comp_stS g E s Rp hit hf hx h0 h hu
  exact ⟨os, s', hc.symm.trans h3, h1, h2⟩
end FA
namespace FA
theorem y_eqS (a b : List Nat) : opEq (.str a) (.str b) = some (.fz (.bl (a == b))) := by rfl
theorem y_neS (a b : List Nat) : opNe (.str a) (.str b) = some (.fz (.bl (!(a == b)))) := by rfl
theorem plain_dN (n k : Nat) : plainN n (dN k) = true := by cases n <;> rfl
/-- an index of a slice -/
def optM (x : O) (ρ : Env) : R (Option Int) := match x with | .fz (.int i) => .ok (some i) ρ | _ => .st
theorem x_eOpt1' (e : Ex) (ρ : Env) : eOpt (some e) ρ = (e ρ).bind fun x ρ => optM x ρ := by rfl
theorem y_optM (n : Nat) (ρ : Env) : optM (.fz (dN n)) ρ = .ok (some (n : Int)) ρ := by rfl
theorem y_optI (n : Int) (ρ : Env) : optM (.fz (.int n)) ρ = .ok (some n) ρ := by rfl
end FA
namespace FA
theorem y_tup1 (a : D) : tupO [.fz a] = .fz (.tup [a]) := by rfl
theorem y_tup2 (a b : D) : tupO [.fz a, .fz b] = .fz (.tup [a, b]) := by rfl
theorem y_tup3 (a b c : D) : tupO [.fz a, .fz b, .fz c] = .fz (.tup [a, b, c]) := by rfl
theorem y_tup4 (a b c d : D) : tupO [.fz a, .fz b, .fz c, .fz d] = .fz (.tup [a, b, c, d]) := by rfl
theorem y_tup5 (a b c d e : D) : tupO [.fz a, .fz b, .fz c, .fz d, .fz e] = .fz (.tup [a, b, c, d, e]) := by rfl
end FA
namespace FA
section
variable (ρ : Env) (e a b c k v : Ex) (p q : Px) (i n : Nat) (d : D) (tx : Tx) (s : Stx)
theorem x_eDic0 : eDic0 ρ = .ok (.dic []) ρ := by rfl
theorem x_eDic1 : eDic1 k v ρ = (k ρ).bind fun k ρ => (v ρ).bind fun v ρ => if kOk k.fr then .ok (.dic [(k.fr, v)]) ρ else .st := by rfl
theorem x_pDix : pDix p q ρ = (p ρ).bind fun x => (q ρ).bind fun k => getDO x k.fr := by rfl
theorem x_pTup (ps : List Px) : pTup ps ρ = (pFz ps ρ).map fun ds => .fz (.tup ds) := by rfl
theorem x_pFz0 : pFz [] ρ = some [] := by rfl
theorem x_pFz1 (r : List Px) : pFz (p :: r) ρ = match p ρ with | some (.fz d) => (pFz r ρ).map (d :: ·) | _ => none := by rfl
theorem x_sSetD : sSetD i k e ρ = (e ρ).bind fun x ρ => match ρ[i]? with
  | some (some (.dic _)) => (k ρ).bind fun k ρ => match ρ[i]? with
    | some (some (.dic kos)) => if headOk kos k.fr ∧ kos.length < line then .ok .nx (ρ.set i (some (.dic (putK kos k.fr x)))) else .st
    | _ => .st
  | _ => .st := by rfl
theorem x_iEnumZ : iEnumZ a b ρ = (a ρ).bind fun x ρ => (b ρ).bind fun y ρ => match x.fr, y.fr with
  | .lst ds, .lst es => if ds.length = es.length then .ok (enumL 0 (zipL ds es)) ρ else .st
  | _, _ => .st := by rfl
theorem fr_dic (kos : List (D × O)) : O.fr (.dic kos) = .dic (frk kos) := by rfl
theorem frk_nil : frk [] = [] := by rfl
theorem frk_cons (k : D) (o : O) (r : List (D × O)) : frk ((k, o) :: r) = (k, o.fr) :: frk r := by rfl
theorem frk_map {α : Type} (f : α → D) (g : α → O) : ∀ l : List α, frk (l.map fun x => (f x, g x)) = l.map fun x => (f x, (g x).fr)
  | [] => rfl
  | x :: r => by rw [List.map_cons, frk_cons, frk_map f g r]; rfl
theorem y_getDO (kos : List (D × O)) (k : D) : getDO (.dic kos) k = if headOk kos k then getK kos k else none := by rfl
theorem y_getDF (kvs : List (D × D)) (k : D) : getDO (.fz (.dic kvs)) k = if headOk kvs k then (getK kvs k).map .fz else none := by rfl
theorem y_inDic (kvs : List (D × D)) (k : D) : opInDic k (.dic kvs) = if headOk kvs k then some (.fz (.bl (getK kvs k).isSome)) else none := by rfl
theorem y_ninDic (kvs : List (D × D)) (k : D) : opNotInDic k (.dic kvs) = if headOk kvs k then some (.fz (.bl (!(getK kvs k).isSome))) else none := by rfl
theorem y_tup0 : tupO [] = .fz (.tup []) := by rfl
end
theorem headOk_map {α β γ : Type} {f : α → D} {t : Bool} (hf : ∀ a, kOk (f a) = true ∧ isTupD (f a) = t) (g : γ → β) (key : γ → α) (l : List γ) (a : α) : headOk (l.map fun x => (f (key x), g x)) (f a) = true := by
  unfold headOk
  rw [(hf a).1]
  cases l with
  | nil => rfl
  | cons x r => show (true && (isTupD (f (key x)) == isTupD (f a))) = true; rw [(hf (key x)).2, (hf a).2]; simp
theorem putK_new {α : Type} (v : α) (k : D) : ∀ {l : List (D × α)}, getK l k = none → putK l k v = l ++ [(k, v)]
  | [], _ => rfl
  | (q, w) :: r, h => by
    unfold getK at h
    split at h
    · cases h
    · rename_i c
      unfold putK
      rw [if_neg c, putK_new v k h]; rfl
abbrev dWt (w : List Nat) : D := .tup (w.map dN)
theorem kOk_dN (p : Nat) : kOk (dN p) = true ∧ isTupD (dN p) = false := ⟨by rfl, by rfl⟩
theorem plains_map {α : Type} {f : α → D} (h : ∀ a, plain (f a) = true) (l : List α) : plains (l.map f) = true := by
  show (l.map f).all plain = true
  simp [h]
theorem in_list {α : Type} [DecidableEq α] {f : α → D} (hp : ∀ a, plain (f a) = true) (hf : ∀ a b, eqv (f a) (f b) = decide (a = b)) (a : α) (l : List α) : inD (f a) (.lst (l.map f)) = some (decide (a ∈ l)) := by
  have e : inD (f a) (.lst (l.map f)) = if eqsOk (f a) (l.map f) then some ((l.map f).any fun d => eqv d (f a)) else none := by
    generalize f a = d
    cases d <;> rfl
  rw [e, if_pos (by unfold eqsOk; rw [hp a, plains_map hp l]; simp), List.any_map]
  congr 1
  rw [Bool.eq_iff_iff]
  simp only [List.any_eq_true, Function.comp, hf, decide_eq_true_eq]
  constructor
  · rintro ⟨x, hx, rfl⟩; exact hx
  · intro h; exact ⟨a, h, rfl⟩
theorem comp_of2 {α : Type} {own : List Nat} {t : Tgt} {it : Itx} {ce : Ex} {ρ ρ0 : Env} {r : R O} (hc : eComp own t it tT ce ρ = r) {l : List α} (g : α → D) (f : α → O) (hit : it ρ = .ok (l.map g) ρ0) (hf : ownFree own ρ0 = true) (hx : l.length ≤ line)
    (h : ∀ a, a ∈ l → ∃ ρ1, asgn t (.fz (g a)) (hide own ρ0) = some ρ1 ∧ ce ρ1 = .ok (f a) ρ1 ∧ hide own ρ1 = hide own ρ0) : r = .ok (.lst (l.map f)) ρ0 := by
  have e := comp_allS (it := fun _ => .ok (l.map g) ρ0) (ρ := ρ0) g f rfl hf hx h
  rw [← hc, ← e]
  unfold eComp
  rw [hit]
/-- a comprehension with a test over a told list -/
theorem comp_ifS {α : Type} {own : List Nat} {t : Tgt} {it : Itx} {conds : Tx} {ce : Ex} {ρ ρ0 : Env} {r : R O} (hc : eComp own t it conds ce ρ = r) {l : List α} (g : α → D) (b : α → Bool) (f : α → O) (hit : it ρ = .ok (l.map g) ρ0) (hf : ownFree own ρ0 = true) (hx : l.length ≤ line)
    (h : ∀ a, a ∈ l → ∃ ρ1, asgn t (.fz (g a)) (hide own ρ0) = some ρ1 ∧ conds ρ1 = .ok (b a) ρ1 ∧ (b a = true → ce ρ1 = .ok (f a) ρ1) ∧ hide own ρ1 = hide own ρ0) : r = .ok (.lst ((l.filter b).map f)) ρ0 := by
  have key : ∀ {l : List α} {ρ' : Env} {acc : List O}, acc.length + l.length ≤ line → hide own ρ' = hide own ρ0 → (∀ a, a ∈ l → ∃ ρ1, asgn t (.fz (g a)) (hide own ρ0) = some ρ1 ∧ conds ρ1 = .ok (b a) ρ1 ∧ (b a = true → ce ρ1 = .ok (f a) ρ1) ∧ hide own ρ1 = hide own ρ0) →
      ∃ ρ2, compG own t conds (push ce) (l.map g) ρ' acc = .ok (acc ++ (l.filter b).map f) ρ2 ∧ hide own ρ2 = hide own ρ0 := by
    intro l
    induction l with
    | nil => intro ρ' acc _ hh _; exact ⟨ρ', by unfold compG; simp, hh⟩
    | cons a r ih =>
      intro ρ' acc hz hh h
      obtain ⟨ρ1, a1, c1, e1, h1⟩ := h a (List.mem_cons_self ..)
      rw [List.map_cons]
      unfold compG
      rw [hh, a1]
      simp only [c1, R.ne, R.bind]
      cases hb : b a with
      | true =>
        obtain ⟨ρ2, e2, h2⟩ := ih (ρ' := ρ1) (acc := acc ++ [f a]) (by simp at hz ⊢; omega) h1 fun d hd => h d (List.mem_cons_of_mem _ hd)
        refine ⟨ρ2, ?_, h2⟩
        simp only [if_true, push, e1 hb, R.bind]
        rw [if_pos (by simp at hz; omega)]
        simp only [R.ne, R.bind]
        rw [e2]
        simp [hb]
      | false =>
        obtain ⟨ρ2, e2, h2⟩ := ih (ρ' := ρ1) (acc := acc) (by simp at hz ⊢; omega) h1 fun d hd => h d (List.mem_cons_of_mem _ hd)
        refine ⟨ρ2, ?_, h2⟩
        simp only [Bool.false_eq_true, if_false]
        rw [e2]
        simp [hb]
  obtain ⟨ρ2, e, h2⟩ := key (l := l) (ρ' := ρ0) (acc := []) (by simpa using hx) rfl h
  rw [← hc]
  unfold eComp
  rw [hit]
  simp only [R.bind, hf, Bool.not_true, Bool.false_eq_true, if_false, e, List.nil_append]
  rw [unhide_eq h2]
/-- a comprehension that changes the state, with the place of each element -/
theorem comp_st_at {α S : Type} {own : List Nat} {t : Tgt} {it : Itx} {ce : Ex} {ρ : Env} {r : R O} (hc : eComp own t it tT ce ρ = r) {l : List α} (g : α → D) (E : S → Env) (s : S) (Rp : List O → S → Prop) (hit : it ρ = .ok (l.map g) (E s)) (hf : ∀ s, ownFree own (E s) = true) (hx : l.length ≤ line) (h0 : Rp [] s)
    (h : ∀ a acc s, l[acc.length]? = some a → Rp acc s → ∃ ρ1 o s' ρ2, asgn t (.fz (g a)) (hide own (E s)) = some ρ1 ∧ ce ρ1 = .ok o ρ2 ∧ hide own ρ2 = hide own (E s') ∧ Rp (acc ++ [o]) s') (hu : ∀ s s', unhide own (E s) (hide own (E s')) = E s') :
    ∃ os s', r = .ok (.lst os) (E s') ∧ os.length = l.length ∧ Rp os s' := by
  have key : ∀ {q : List α} {s : S} {ρ' : Env} {acc : List O}, l.drop acc.length = q → acc.length ≤ l.length → hide own ρ' = hide own (E s) → Rp acc s →
      ∃ os s' ρ2, os.length = l.length ∧ Rp os s' ∧ compG own t tT (push ce) (q.map g) ρ' acc = .ok os ρ2 ∧ hide own ρ2 = hide own (E s') := by
    intro q
    induction q with
    | nil =>
      intro s ρ' acc hz hl hh hr
      have : l.length ≤ acc.length := by simpa using hz
      exact ⟨acc, s, ρ', by omega, hr, by unfold compG; simp, hh⟩
    | cons a q ih =>
      intro s ρ' acc hz hl hh hr
      have hlt : acc.length < l.length := by
        rcases Nat.lt_or_ge acc.length l.length with z | z
        · exact z
        · rw [List.drop_eq_nil_of_le z] at hz; cases hz
      have ha : l[acc.length]? = some a := by
        have := congrArg (·[0]?) hz
        simpa using this
      obtain ⟨ρ1, o, s', ρ2, a1, e1, h1, hr1⟩ := h a acc s ha hr
      have hz' : l.drop (acc ++ [o]).length = q := by
        rw [List.length_append, List.length_singleton, ← List.drop_drop, hz]; rfl
      obtain ⟨os, s'', ρ3, l3, r3, e3, h3⟩ := ih (s := s') (ρ' := ρ2) (acc := acc ++ [o]) hz' (by simp; omega) h1 hr1
      refine ⟨os, s'', ρ3, l3, r3, ?_, h3⟩
      rw [List.map_cons]
      unfold compG
      rw [hh, a1]
      simp only [tT, R.ne, R.bind, if_true, push, e1]
      rw [if_pos (by omega)]
      simp only [R.ne, R.bind]
      rw [e3]
  obtain ⟨os, s', ρ2, l2, r2, e, h2⟩ := key (q := l) (s := s) (ρ' := E s) (acc := []) rfl (Nat.zero_le _) rfl h0
  refine ⟨os, s', ?_, l2, r2⟩
  rw [← hc]
  unfold eComp
  rw [hit]
  simp only [R.bind, hf, Bool.not_true, Bool.false_eq_true, if_false, e]
  have : unhide own (E s) ρ2 = E s' := by
    rw [← hu s s', ← h2]
    apply List.ext_getElem?
    intro j
    rw [p_unhide_get, p_unhide_get, p_hide_len, p_hide_get]
    by_cases hj : j ∈ own ∧ j < ρ2.length
    · rw [if_pos hj, if_pos hj]
    · rw [if_neg hj, if_neg hj, if_neg hj]
  rw [this]
def lrgM (x : O) (ρ : Env) : R O := match x with
  | .fz (.int j) => if 0 ≤ j ∧ j ≤ 16777216 then .ok (.lst ((rangeL 0 1 j.toNat).map .fz)) ρ else .st
  | _ => .st
theorem x_eLRg (a : Ex) (ρ : Env) : eLRg a ρ = (a ρ).bind fun x ρ => lrgM x ρ := by rfl
theorem y_lrg (n : Nat) (ρ : Env) : lrgM (.fz (dN n)) ρ = if n ≤ 16777216 then .ok (.lst (((List.range n).map dN).map .fz)) ρ else .st := by
  show (if (0 : Int) ≤ (n : Int) ∧ (n : Int) ≤ 16777216 then R.ok (O.lst ((rangeL 0 1 (n : Int).toNat).map .fz)) ρ else .st) = _
  have := rangeL_map n 0
  rw [Int.toNat_natCast, show rangeL 0 1 n = (List.range n).map dN by rw [List.range_eq_range']; exact this]
  by_cases q : n ≤ 16777216
  · rw [if_pos (by omega), if_pos q]
  · rw [if_neg (by omega), if_neg q]
section
variable {ρ : Env}
def itemsM (d : D) (ρ : Env) : R (List D) := match d with
  | .dic kvs => .ok (kvs.map fun p => .tup [p.1, p.2]) ρ
  | _ => .st
def keysM (d : D) (ρ : Env) : R (List D) := match d with
  | .dic kvs => .ok (kvs.map fun p => p.1) ρ
  | _ => .st
theorem x_iItems (e : Ex) : iItems e ρ = (e ρ).bind fun x ρ => itemsM x.fr ρ := by rfl
theorem x_iKeysD (e : Ex) : iKeysD e ρ = (e ρ).bind fun x ρ => keysM x.fr ρ := by rfl
theorem y_itemsM (kvs : List (D × D)) : itemsM (.dic kvs) ρ = .ok (kvs.map fun p => .tup [p.1, p.2]) ρ := by rfl
theorem y_keysM (kvs : List (D × D)) : keysM (.dic kvs) ρ = .ok (kvs.map fun p => p.1) ρ := by rfl
theorem x_sForI (t : Tgt) (it : Itx) (body : Stx) : sForI t it body ρ = (it ρ).bind fun xs ρ => (forL t body xs ρ).ne := by rfl
theorem y_neok {α : Type} (a : α) (ρ' : Env) : R.ne (.ok a ρ') = .ok a ρ' := by rfl
theorem x_eGetD (i : Nat) (k x : Ex) : eGetD i k x ρ = match ρ[i]? with
  | some (some o) => if isDicO o = true then (k ρ).bind fun k ρ => (x ρ).bind fun x ρ => match ρ[i]? with
      | some (some o) => ofOpt ((getR o k.fr x.fr).map O.fz) ρ
      | _ => .st
    else .st
  | _ => .st := by rfl
theorem y_isDic (kos : List (D × O)) : isDicO (.dic kos) = true := by rfl
theorem y_isDicF (kvs : List (D × D)) : isDicO (.fz (.dic kvs)) = true := by rfl
theorem x_ePopL (i : Nat) : ePopL i ρ = match ρ[i]? with
  | some (some (.lst os)) => match os.getLast? with
    | some o => .ok o (ρ.set i (some (.lst os.dropLast)))
    | none => .st
  | _ => .st := by rfl
end
end FA
namespace FA
local macro_rules
  | `(tactic| simp_arith [$ls,*] $[$l:location]?) => `(tactic| simp only [x_pC, x_pV, x_pIx, x_pFld, x_pLen, x_pOp, x_eC, x_eP, x_eFrz, x_e1, x_e2, x_eM, x_e2P, x_e1P, x_eFz, x_eOpt0, x_eSl, x_eAll0, x_eAll1, x_eLst, x_eTup, x_tE, x_tP, x_tAnd, x_tOr, x_tNot, x_eAnd, x_eOr, x_eNot, x_eIf, x_eChain, x_asgnN, x_asgnT, x_asgnTO, x_asgns0, x_asgns1, x_iE, x_iRange, x_iRange1, x_iDown, x_iEnumL, x_iZipL, x_eZipL, x_args0, x_args1, x_args2, x_args3, x_fill0, x_fill1, x_fill2, x_fill3, x_back0, x_back1, x_back2, x_back3, x_ios0, x_ios1, x_ios2, x_ios3, x_hide0, x_hide1, x_eCall, x_semMake, x_sNx, x_blk0, x_blk1, x_blk2, x_sSet, x_sEx, x_sRet, x_sRetN, x_sIf, x_sBrk, x_sFor, x_sWhile, x_sApp, x_sExt, x_sSetF, x_sSetI, x_runDef, x_outs0, x_outs1, x_eOpt1', x_eDic0, x_eDic1, x_pDix, x_pTup, x_pFz0, x_pFz1, x_sSetD, x_iEnumZ, x_eLRg, x_iItems, x_iKeysD, x_sForI, x_eGetD, x_ePopL, ↓bind_toD, bd_ok, bd_st, bd_exc, ↓reduceIte, oo_s, ok_ok, boolO_eq, intO_eq, fr_f, fr_lst, fr_tup, frs_nil, frs_cons, frs_mapfz, List.getElem?_cons_zero, List.getElem?_cons_succ, List.set_cons_zero, List.set_cons_succ, List.length_cons, List.length_nil, Option.bind_some, Option.map_some, List.map_cons, List.map_nil, List.cons_append, List.nil_append, List.append_nil, List.replicate_succ, List.replicate_zero, if_true, if_false, Bool.false_eq_true, Bool.not_true, Bool.not_false, Nat.reduceSub, Nat.reduceLT, Nat.reduceAdd, Nat.reduceLeDiff, String.reduceEq, List.map_id', tru_b, itemO_f, opAdd_ii, opSub_ii, opMod_ii, opFDiv_ii, opLt_ii, opGt_ii, opLe_ii, opGe_ii, opLen_l, opLen_t, opLen_c, opInt_i, opInt_b, opAbs_i, inst_str_s, isS_s, isSL_s, isSL_l, itemsD_l, itemsD_t, itemsD_s, opItem_x, opAll_x, fldO_f, fldO_i, y_lit, y_cast, y_addN, y_addIN, y_mulN5, y_ltN, y_gtN, y_leN, y_geN, y_eqN, y_neN, y_intN, y_intB, y_truN, y_instI, y_instIB, y_instIS, y_instL, y_lenL, y_lenT, y_len_map, y_item0, y_item1, y_item2, y_item3, y_item4, y_itemO0, y_itemO1, y_app, y_ext, y_extO, y_opList, y_opListT, y_opTuple, y_opTupleT, y_revL, y_frsfz, y_addT, y_addL, y_rng, y_rng2, y_dwn, y_inS, y_ninS, y_countS, y_frsfr, y_eqS, y_neS, y_optM, y_optI, y_tup1, y_tup2, y_tup3, y_tup4, y_tup5, y_getDO, y_getDF, y_inDic, y_ninDic, y_tup0, y_lrg, y_itemsM, y_keysM, y_neok, y_isDic, y_isDicF, fr_dic, frk_nil, frk_cons, $ls,*] $[$l:location]?)
local macro_rules
  | `(tactic| simp_arith! [$ls,*] $[$l:location]?) => `(tactic| simp only [x_pC, x_pV, x_pIx, x_pFld, x_pLen, x_pOp, x_eC, x_eP, x_eFrz, x_e1, x_e2, x_eM, x_e2P, x_e1P, x_eFz, x_eOpt0, x_eSl, x_eAll0, x_eAll1, x_eLst, x_eTup, x_tE, x_tP, x_tAnd, x_tOr, x_tNot, x_eAnd, x_eOr, x_eNot, x_eIf, x_eChain, x_asgnN, x_asgnT, x_asgnTO, x_asgns0, x_asgns1, x_iE, x_iRange, x_iRange1, x_iDown, x_iEnumL, x_iZipL, x_eZipL, x_args0, x_args1, x_args2, x_args3, x_fill0, x_fill1, x_fill2, x_fill3, x_back0, x_back1, x_back2, x_back3, x_ios0, x_ios1, x_ios2, x_ios3, x_hide0, x_hide1, x_eCall, x_semMake, x_sNx, x_blk0, x_blk1, x_blk2, x_sSet, x_sEx, x_sRet, x_sRetN, x_sIf, x_sBrk, x_sFor, x_sWhile, x_sApp, x_sExt, x_sSetF, x_sSetI, x_runDef, x_outs0, x_outs1, x_eOpt1', x_eDic0, x_eDic1, x_pDix, x_pTup, x_pFz0, x_pFz1, x_sSetD, x_iEnumZ, x_eLRg, x_iItems, x_iKeysD, x_sForI, x_eGetD, x_ePopL, ↓bind_toD, bd_ok, bd_st, bd_exc, ↓reduceIte, oo_s, ok_ok, boolO_eq, intO_eq, fr_f, fr_lst, fr_tup, frs_nil, frs_cons, frs_mapfz, List.getElem?_cons_zero, List.getElem?_cons_succ, List.set_cons_zero, List.set_cons_succ, List.length_cons, List.length_nil, Option.bind_some, Option.map_some, List.map_cons, List.map_nil, List.cons_append, List.nil_append, List.append_nil, List.replicate_succ, List.replicate_zero, if_true, if_false, Bool.false_eq_true, Bool.not_true, Bool.not_false, Nat.reduceSub, Nat.reduceLT, Nat.reduceAdd, Nat.reduceLeDiff, String.reduceEq, List.map_id', tru_b, itemO_f, itemO_l, opAdd_ii, opSub_ii, opMod_ii, opFDiv_ii, opLt_ii, opGt_ii, opLe_ii, opGe_ii, opLen_l, opLen_t, opLen_c, opInt_i, opInt_b, opAbs_i, inst_str_s, isS_s, isSL_s, isSL_l, itemsD_l, itemsD_t, itemsD_s, opItem_x, opAll_x, fldO_f, fldO_i, fr_dic, frk_nil, frk_cons, opMul_r, opMul_l, sm5, sm2, sm69069, sm104729, $ls,*] $[$l:location]?)
theorem cell_ok (ns : List Int) (k : Nat) : ∃ z : Int, sem_law_cell [.fz (.scr ns), .fz (dN k)] = .ok (.fz (.int z)) [] := by
  unfold sem_law_cell body_law_cell
  by_cases h : k < ns.length
  · refine ⟨ns.getD k 0, ?_⟩
    have e : itemD (.scr ns) (dN k) = some (.int (ns.getD k 0)) := by
      show (idx ns.length (k : Int)).bind _ = _
      rw [idx_nat _ _ h]
      simp [h]
    simp_arith [opLen_c, decide_eq_true h, e]
  · refine ⟨0, ?_⟩
    simp_arith [opLen_c, decide_eq_false h]
def rowE (ns : List Int) (N : Nat) (L : List Int) (c d e : Option O) : Env := [some (.fz (.scr ns)), some (.fz (dN 0)), some (.fz (dN N)), some (.lst (L.map fun i => .fz (.int i))), c, d, e]
theorem pow18 : opPow (.int 10) (.int 18) = some (.fz (.int 1000000000000000000)) := by rfl
theorem row_ok (ns : List Int) (N : Nat) (hN : N ≤ 63) : ∃ L : List Int, sem_law_row [.fz (.scr ns), .fz (dN 0), .fz (dN N)] = .ok (.fz (.lst (L.map .int))) [] := by
  unfold sem_law_row body_law_row
  have hN' : N < 4611686018427387904 := by omega
  simp_arith! [y_rng2, hN']
  generalize hf : forL _ _ _ _ = r
  obtain ⟨p, rfl, hI⟩ := for_of hf (fun (p : List Int × Option O × Option O × Option O) => rowE ns N p.1 p.2.1 p.2.2.1 p.2.2.2) (fun i p => p.1.length ≤ 60 * i) ([], none, none, none) rfl (Nat.le_refl _) (by
    rintro i d ⟨L, c, d0, e0⟩ hd hI
    obtain ⟨k, hk, rfl⟩ := map_at hd
    have hi : i < N := by
      have := (List.getElem?_eq_some_iff.mp hk).1
      simpa using this
    simp only at hI
    obtain ⟨z, hz⟩ := cell_ok ns k
    have h60 : ∀ ρ : Env, rngM (.fz (.int 60)) ρ = .ok ((List.range 60).map dN) ρ := fun ρ => y_rng 60 ρ
    have h10 : ∀ ρ : Env, rngM (.fz (.int 10)) ρ = .ok ((List.range 10).map dN) ρ := fun ρ => y_rng 10 ρ
    simp_arith! [rowE, hz, pow18]
    generalize (if 2 * z < 0 then -(2 * z) else 2 * z) + (if decide (z < 0) = true then 1 else 0) = y
    have inner : ∀ (n : Nat) (body : Stx) (y : Int), n ≤ 60 → (∀ (M : List Int) (y : Int) (j : Nat) (e : Option O), M.length < line → ∃ M' y', M'.length ≤ M.length + 1 ∧ body (rowE ns N M (some (.fz (dN k))) (some (.fz (.int y))) (some (.fz (dN j)))) = .ok .nx (rowE ns N M' (some (.fz (dN k))) (some (.fz (.int y'))) (some (.fz (dN j))))) →
        ∃ M' y' e', M'.length ≤ L.length + n ∧ forL (.nm 6) body ((List.range n).map dN) (rowE ns N L (some (.fz (dN k))) (some (.fz (.int y))) e0) = .ok .nx (rowE ns N M' (some (.fz (dN k))) (some (.fz (.int y'))) e') := by
      intro n body y hn hb
      obtain ⟨q, e1, hq⟩ := for_of (r := forL (.nm 6) body ((List.range n).map dN) (rowE ns N L (some (.fz (dN k))) (some (.fz (.int y))) e0)) rfl (fun (q : List Int × Int × Option O) => rowE ns N q.1 (some (.fz (dN k))) (some (.fz (.int q.2.1))) q.2.2) (fun j q => q.1.length ≤ L.length + j) (L, y, e0) rfl (Nat.le_refl _) (by
        rintro j d ⟨M, y, e⟩ hd hI2
        obtain ⟨j', hj, rfl⟩ := map_at hd
        obtain ⟨h1, h2⟩ := range_at hj
        simp only at hI2
        obtain ⟨M', y', hM, hb'⟩ := hb M y j' e (by unfold line; omega)
        refine ⟨(M', y', some (.fz (dN j'))), ?_, by simp only; omega⟩
        rw [x_asgnN, if_pos (by simp [rowE])]
        exact hb')
      refine ⟨q.1, q.2.1, q.2.2, ?_, e1⟩
      simpa using hq
    by_cases hy : (1000000000000000000 : Int) < y
    · simp_arith! [decide_eq_true hy, h60]
      obtain ⟨M', y', e', hM, hb⟩ := inner 60 (sBlk [(sIf (tE (e2 opGt (eP (pV 5)) (eC (.int 0)))) (sBlk [(sApp (lV 3) (e2 opMod (e1 opInt (eP (pV 5))) (eC (.int 840)))), (sSet (.nm 5) (eFz (e2 opFDiv (eP (pV 5)) (eC (.int 840)))))]) sNx)]) y (Nat.le_refl _) (by
        intro M y j e hM
        by_cases h : (0 : Int) < y
        · refine ⟨M ++ [y % 840], y / 840, by simp, ?_⟩
          simp_arith! [rowE, decide_eq_true h, appO_l, y_len_map, hM, List.map_append, Int.reduceLT, and_self, true_and]
        · refine ⟨M, y, by simp, ?_⟩
          simp_arith! [rowE, decide_eq_false h])
      refine ⟨(M', some (.fz (dN k)), some (.fz (.int y')), e'), ?_, by simp only; omega⟩
      simp_arith! [rowE] at hb ⊢
      rw [hb]
    · simp_arith! [decide_eq_false hy, h10]
      obtain ⟨M', y', e', hM, hb⟩ := inner 10 (sBlk [(sSet (.nm 5) (eFz (e2 opMod (e1 opInt (e2 opAdd (e2 opAdd (e2 opMulI (eP (pV 5)) (eC (.int 69069))) (e2 opMulI (eC (.int 104729)) (e2 opAdd (eP (pV 4)) (eP (pV 6))))) (eC (.int 1)))) (eC (.int 4294967291))))), (sApp (lV 3) (e2 opMod (e1 opInt (e2 opFDiv (eP (pV 5)) (eC (.int 5003)))) (eC (.int 840))))]) y (by decide) (by
        intro M y j e hM
        refine ⟨M ++ [((y * 69069 + 104729 * (k + j) + 1) % 4294967291) / 5003 % 840], (y * 69069 + 104729 * (k + j) + 1) % 4294967291, by simp, ?_⟩
        simp_arith! [rowE, dN, appO_l, y_len_map, hM, List.map_append, Int.reduceLT, and_self, true_and])
      refine ⟨(M', some (.fz (dN k)), some (.fz (.int y')), e'), ?_, by simp only; omega⟩
      simp_arith! [rowE] at hb ⊢
      rw [hb])
  refine ⟨p.1, ?_⟩
  simp_arith! [rowE, frs_map]
/-- what is drawn from, and how much was drawn -/
def boxO (L : List Int) (n : Nat) : O := .lst [.fz (.lst (L.map .int)), .fz (dN n)]
theorem draw_ok (L : List Int) (n m : Nat) (hm : 0 < m) : ∃ z, z < m ∧ sem_law_draw [boxO L n, .fz (dN m)] = .ok (.fz (dN z)) [some (boxO L (n + 1))] := by
  have hm' : (0 : Int) < (m : Int) := by omega
  have key : ∀ y : Int, ∃ z, z < m ∧ opMod (.int y) (dN m) = some (.fz (dN z)) := fun y => by
    refine ⟨(y % m).toNat, ?_, ?_⟩
    · have h1 := Int.emod_nonneg y (show (m : Int) ≠ 0 by omega)
      have h2 := Int.emod_lt_of_pos y hm'
      omega
    · show (if (0 : Int) < (m : Int) then some (intO (y % m)) else none) = _
      rw [if_pos hm']
      have h1 := Int.emod_nonneg y (show (m : Int) ≠ 0 by omega)
      show some (O.fz (.int (y % m))) = some (.fz (.int ((y % m).toNat : Int)))
      rw [Int.toNat_of_nonneg h1]
  have hs : ∀ (y : D) (x : O), setItemO (dN 1) x (.lst [.fz y, .fz (dN n)]) = some (.lst [.fz y, x]) := fun y x => rfl
  unfold sem_law_draw body_law_draw boxO
  by_cases h : n < L.length
  · obtain ⟨z, hz, e⟩ := key (L.getD n 0)
    refine ⟨z, hz, ?_⟩
    have e2 : itemD (.lst (L.map .int)) (dN n) = some (.int (L.getD n 0)) := item_map 0 h
    simp_arith [hs, y_len_map, decide_eq_true h, e2, e]
  · obtain ⟨z, hz, e⟩ := key ((n : Int) * 5 + 1)
    refine ⟨z, hz, ?_⟩
    have e2 : opMod (dN (n * 5 + 1)) (dN m) = some (.fz (dN z)) := by
      rw [← e]; congr 1
    simp_arith [hs, y_len_map, decide_eq_false h, e2]
def ix (al : List Nat) (c : Nat) : Nat := (findN al c).getD 0
theorem findN_some {c : Nat} : ∀ {al : List Nat}, c ∈ al → findN al c = some (ix al c) ∧ ix al c < al.length ∧ al.getD (ix al c) 0 = c
  | [], h => by cases h
  | d :: r, h => by
    unfold ix findN
    by_cases e : d = c
    · rw [if_pos e]; simp [e]
    · rw [if_neg e]
      have : c ∈ r := by
        rcases List.mem_cons.mp h with z | z
        · exact absurd z.symm e
        · exact z
      obtain ⟨h1, h2, h3⟩ := findN_some this
      rw [h1]
      refine ⟨rfl, by simp; omega, ?_⟩
      simpa using h3
def Wd' (al t : List Nat) : Prop := ∀ c ∈ t, c ∈ al
/-- a drawn word -/
theorem word_ok (L : List Int) (n : Nat) (al : List Nat) (m : Nat) (ha : 0 < al.length) (hal : al.length ≤ line) (hm : m < 1000) : ∃ w n', w.length ≤ m ∧ Wd' al w ∧ sem_law_word [boxO L n, .fz (.str al), .fz (dN m)] = .ok (.fz (.str w)) [some (boxO L n')] := by
  obtain ⟨z, hz, ez⟩ := draw_ok L n (m + 1) (by omega)
  have hz' : z < 4611686018427387904 := by omega
  unfold sem_law_word body_law_word
  simp_arith []
  generalize hc : eComp _ _ _ _ _ _ = r
  obtain ⟨os, n', rfl, hl, w, rfl, hw⟩ := comp_st_of hc (l := List.range z) dN (fun n => [some (boxO L n), some (.fz (.str al)), some (.fz (dN m)), none]) (n + 1)
    (fun os _ => ∃ w : List Nat, os = w.map (fun c => O.fz (.str [c])) ∧ ∀ c ∈ w, c ∈ al) (by simp_arith [ez, hz']) (fun _ => rfl) (by simp; unfold line; omega) ⟨[], rfl, by simp⟩ (by
      rintro k acc n hk _ ⟨w, rfl, hw⟩
      obtain ⟨y, hy, ey⟩ := draw_ok L n al.length ha
      refine ⟨_, .fz (.str [al.getD y 0]), n + 1, [some (boxO L (n + 1)), some (.fz (.str al)), some (.fz (dN m)), some (.fz (dN k))], rfl, ?_, rfl, w ++ [al.getD y 0], by simp, ?_⟩
      · simp_arith [hide, List.foldl, len_str hal, ey, item_str hy hal]
      · intro c hc
        rcases List.mem_append.mp hc with h | h
        · exact hw c h
        · rw [List.mem_singleton.mp h]; exact getD_mem 0 hy) (fun _ _ => rfl)
  have hwl : w.length = z := by simpa using hl
  refine ⟨w, n', by omega, hw, ?_⟩
  have hj : opJoin (.str []) (.lst (w.map fun c => .str [c])) = some (.fz (.str w)) := by
    have := join_one (f := fun c => c) (l := w) (by unfold line; omega)
    simpa using this
  simp_arith [y_frsfr, hj]
theorem while_orH {S : Type} {Hit : O → Prop} {c : Tx} {body : Stx} {n : Nat} {ρ : Env} {r : R Flow} (hw : whileL c body n ρ = r) (E : S → Env) (I : S → Prop) (μ : S → Nat) (s : S) (he : ρ = E s) (h0 : I s) (hμ : μ s < n)
    (step : ∀ s, I s → c (E s) = .ok false (E s) ∨ (c (E s) = .ok true (E s) ∧ ((∃ s', body (E s) = .ok .nx (E s') ∧ I s' ∧ μ s' < μ s) ∨ (∃ v, Hit v ∧ ∃ ρ', body (E s) = .ok (.ret v) ρ')))) : (∃ s', r = .ok .nx (E s') ∧ I s' ∧ c (E s') = .ok false (E s')) ∨ (∃ v, Hit v ∧ ∃ ρ', r = .ok (.ret v) ρ') := by
  subst he
  have key : ∀ (n : Nat) (s : S), I s → μ s < n → (∃ s', whileL c body n (E s) = .ok .nx (E s') ∧ I s' ∧ c (E s') = .ok false (E s')) ∨ (∃ v, Hit v ∧ ∃ ρ', whileL c body n (E s) = .ok (.ret v) ρ') := by
    intro n
    induction n with
    | zero => intro s _ h; omega
    | succ n ih =>
      intro s hI hm
      rcases step s hI with h | ⟨h1, ⟨s', h2, h3, h4⟩ | ⟨v, hh, ρ', h2⟩⟩
      · refine .inl ⟨s, ?_, hI, h⟩
        show (c (E s)).bind _ = _
        rw [h]; rfl
      · rcases ih s' h3 (by omega) with ⟨s2, e2, q⟩ | ⟨v, hh, ρ', e2⟩
        · refine .inl ⟨s2, ?_, q⟩
          show (c (E s)).bind _ = _
          rw [h1]
          show (body (E s)).bind _ = _
          rw [h2]
          exact e2
        · refine .inr ⟨v, hh, ρ', ?_⟩
          show (c (E s)).bind _ = _
          rw [h1]
          show (body (E s)).bind _ = _
          rw [h2]
          exact e2
      · refine .inr ⟨v, hh, ρ', ?_⟩
        show (c (E s)).bind _ = _
        rw [h1]
        show (body (E s)).bind _ = _
        rw [h2]
        rfl
  rcases key n s h0 hμ with ⟨s', e, q⟩ | ⟨v, hh, ρ', e⟩
  · exact .inl ⟨s', hw.symm.trans e, q⟩
  · exact .inr ⟨v, hh, ρ', hw.symm.trans e⟩
theorem x_forC (t : Tgt) (body : Stx) (x : D) (r : List D) (ρ : Env) : forL t body (x :: r) ρ = match asgn t (.fz x) ρ with
    | none => .st
    | some ρ => (body ρ).bind fun f ρ => match f with
      | .nx => forL t body r ρ
      | .brk => .ok .nx ρ
      | .ret o => .ok (.ret o) ρ := by rfl
theorem x_eMeth (c : String) (f : FSem) (i : Nat) (as : List Ar) (ρ : Env) : eMeth c f i as ρ = match ρ[i]? with
  | some (some (.ins c' _)) => if c' = c then eCall f (.io i :: as) ρ else .st
  | _ => .st := by rfl
theorem x_eMv (i : Nat) (ρ : Env) : eMv i ρ = match ρ[i]? with | some (some o) => .ok o (ρ.set i none) | _ => .st := by rfl
/-- a part of a pattern: whether it may be empty, its first and last places -/
structure PtM where
  nul : Bool
  fst : List Nat
  lst : List Nat
  deriving DecidableEq
def dPt (p : PtM) : D := .ins "Part" [("nullable", .bl p.nul), ("first", dNs p.fst), ("last", dNs p.lst)]
abbrev FrM := List (List PtM) × List PtM
structure ScM where
  marks : List (Option Nat)
  fol : List (List Nat)
  up : List FrM
  tp : FrM
  signs : Nat
  star : Bool
def dMk : Option Nat → D
  | none => .non
  | some k => dN k
def oBr (b : List PtM) : O := .lst (b.map fun p => .fz (dPt p))
def oFr (f : FrM) : O := .lst (f.1.map oBr ++ [oBr f.2])
def oFol (F : List (List Nat)) : O := .lst (.lst [] :: F.map fun l => .fz (dNs l))
def oFrs (up : List FrM) (tp : FrM) : O := .lst (up.reverse.map oFr ++ [oFr tp])
def oMks (m : List (Option Nat)) : O := .lst (.fz .non :: m.map fun k => .fz (dMk k))
def sgFs (al : List Nat) (s : ScM) (fr : O) : List (String × O) := [("alphabet", .fz (.str al)), ("marks", oMks s.marks), ("follow", oFol s.fol), ("frames", fr), ("signs", .fz (dN s.signs)), ("starred", .fz (.bl s.star))]
abbrev oSg (al : List Nat) (s : ScM) (fr : O) : O := .ins "Scanner" (sgFs al s fr)
abbrev oSc (al : List Nat) (s : ScM) : O := .ins "Scanner" (sgFs al s (oFrs s.up s.tp))
theorem sf_alphabet (al : List Nat) (s : ScM) (fr : O) : getF (sgFs al s fr) "alphabet" = some (.fz (.str al)) := by rfl
theorem sf_marks (al : List Nat) (s : ScM) (fr : O) : getF (sgFs al s fr) "marks" = some (oMks s.marks) := by rfl
theorem sf_follow (al : List Nat) (s : ScM) (fr : O) : getF (sgFs al s fr) "follow" = some (oFol s.fol) := by rfl
theorem sf_frames (al : List Nat) (s : ScM) (fr : O) : getF (sgFs al s fr) "frames" = some fr := by rfl
theorem sf_signs (al : List Nat) (s : ScM) (fr : O) : getF (sgFs al s fr) "signs" = some (.fz (dN s.signs)) := by rfl
theorem sf_starred (al : List Nat) (s : ScM) (fr : O) : getF (sgFs al s fr) "starred" = some (.fz (.bl s.star)) := by rfl
theorem st_starred (al : List Nat) (s : ScM) (fr : O) (b : Bool) : setFldO "starred" (.fz (.bl b)) (.ins "Scanner" (sgFs al s fr)) = some (oSg al { s with star := b } fr) := by rfl
theorem pf_nul (p : PtM) : fldO (.fz (dPt p)) "nullable" = some (.fz (.bl p.nul)) := by rfl
theorem pf_fst (p : PtM) : fldO (.fz (dPt p)) "first" = some (.fz (dNs p.fst)) := by rfl
theorem pf_lst (p : PtM) : fldO (.fz (dPt p)) "last" = some (.fz (dNs p.lst)) := by rfl
theorem idx_end (n : Nat) : idx (n + 1) (-1) = some n := by
  rw [idx_last _ (Nat.succ_pos n)]; rfl
theorem app_end {α : Type} (l : List α) (a : α) : (l ++ [a])[l.length]? = some a := by simp
theorem set_end {α : Type} (l : List α) (a b : α) : (l ++ [a]).set l.length b = l ++ [b] := by simp
theorem len_end {α : Type} (l : List α) (a : α) : (l ++ [a]).length = l.length + 1 := by simp
theorem itemO_end (l : List O) (a : O) : itemO (.lst (l ++ [a])) (.int (-1)) = some a := by
  show (idx (l ++ [a]).length (-1)).bind (fun k => (l ++ [a])[k]?) = _
  rw [len_end, idx_end]
  exact app_end l a
theorem len_frs (up : List FrM) (tp : FrM) : lenD (oFrs up tp).fr = some (up.length + 1) := by
  show some (frs _).length = _
  rw [frs_app, frs_map]
  simp [frs_cons, frs_nil]
theorem len_mks (m : List (Option Nat)) : opLen (oMks m).fr = some (.fz (dN (m.length + 1))) := by
  show some (intO ((frs _).length : Int)) = _
  rw [frs_cons, frs_map]
  simp; rfl
theorem pt_frs (al : List Nat) (s : ScM) (ρ : Env) : ptFld ptV "frames" ρ (oSc al s) = some ([3], oFrs s.up s.tp) := by rfl
theorem pt_mks (al : List Nat) (s : ScM) (ρ : Env) : ptFld ptV "marks" ρ (oSc al s) = some ([1], oMks s.marks) := by rfl
theorem pt_fol (al : List Nat) (s : ScM) (fr : O) (ρ : Env) : ptFld ptV "follow" ρ (oSg al s fr) = some ([2], oFol s.fol) := by rfl
theorem ptIx_end {l : Pth} {ρ : Env} {o : O} {π : List Nat} {os : List O} {x : O} (h : l ρ o = some (π, .lst (os ++ [x]))) : ptIx l (pC (.int (-1))) ρ o = some (π ++ [os.length], x) := by
  unfold ptIx
  rw [h]
  show ((idx (os ++ [x]).length (-1)).bind fun n => ((os ++ [x])[n]?).map fun c => (π ++ [n], c)) = _
  rw [len_end, idx_end]
  show ((os ++ [x])[os.length]?).map _ = _
  rw [app_end]; rfl
theorem pt_top (al : List Nat) (s : ScM) (ρ : Env) : ptIx (ptFld ptV "frames") (pC (.int (-1))) ρ (oSc al s) = some ([3, (s.up.reverse.map oFr).length], oFr s.tp) := ptIx_end (pt_frs al s ρ)
theorem pt_cur (al : List Nat) (s : ScM) (ρ : Env) : ptIx (ptIx (ptFld ptV "frames") (pC (.int (-1)))) (pC (.int (-1))) ρ (oSc al s) = some ([3, (s.up.reverse.map oFr).length, (s.tp.1.map oBr).length], oBr s.tp.2) := ptIx_end (pt_top al s ρ)
theorem put_frs (al : List Nat) (s : ScM) (up : List FrM) (tp : FrM) : putAt [3] (oSc al s) (oFrs up tp) = oSc al { s with up := up, tp := tp } := by rfl
theorem put_mks (al : List Nat) (s : ScM) (m : List (Option Nat)) : putAt [1] (oSc al s) (oMks m) = oSc al { s with marks := m } := by rfl
theorem put_fol (al : List Nat) (s : ScM) (fr : O) (F : List (List Nat)) : putAt [2] (oSg al s fr) (oFol F) = oSg al { s with fol := F } fr := by rfl
theorem put_end (os : List O) (x y : O) (π : List Nat) : putAt (os.length :: π) (.lst (os ++ [x])) y = .lst (os ++ [putAt π x y]) := by
  show (match (os ++ [x])[os.length]? with
    | some c => O.lst ((os ++ [x]).set os.length (putAt π c y))
    | none => O.lst (os ++ [x])) = _
  rw [app_end]
  simp only [set_end]
theorem put_3 (al : List Nat) (s : ScM) (π : List Nat) (y : O) : putAt (3 :: π) (oSc al s) y = .ins "Scanner" [("alphabet", .fz (.str al)), ("marks", oMks s.marks), ("follow", oFol s.fol), ("frames", putAt π (oFrs s.up s.tp) y), ("signs", .fz (dN s.signs)), ("starred", .fz (.bl s.star))] := by rfl
theorem put_top (al : List Nat) (s : ScM) (tp : FrM) : putAt [3, (s.up.reverse.map oFr).length] (oSc al s) (oFr tp) = oSc al { s with tp := tp } := by
  rw [put_3]
  unfold oFrs
  rw [put_end]; rfl
theorem put_cur (al : List Nat) (s : ScM) (b : List PtM) : putAt [3, (s.up.reverse.map oFr).length, (s.tp.1.map oBr).length] (oSc al s) (oBr b) = oSc al { s with tp := (s.tp.1, b) } := by
  rw [put_3]
  unfold oFrs
  rw [put_end]
  unfold oFr
  rw [put_end]; rfl
def mrg (a b : List Nat) : List Nat := (List.range 13).filter fun x => decide (x ∈ a ∨ x ∈ b)
theorem mem_mrg {a b : List Nat} {x : Nat} : x ∈ mrg a b ↔ x < 13 ∧ (x ∈ a ∨ x ∈ b) := by
  unfold mrg
  rw [List.mem_filter, List.mem_range, decide_eq_true_eq]
theorem mrg_pw (a b : List Nat) : (mrg a b).Pairwise (· < ·) := List.Pairwise.filter _ List.pairwise_lt_range
theorem lenL_mrg (a b : List Nat) : (mrg a b).length ≤ 13 := by
  have := List.length_filter_le (fun x => decide (x ∈ a ∨ x ∈ b)) (List.range 13)
  simpa [mrg] using this
def kv1 (ks : List Nat) : List (D × O) := ks.map fun k => (dN k, O.fz (.bl true))
theorem getK_kv1 (k : Nat) : ∀ ks : List Nat, k ∉ ks → getK (kv1 ks) (dN k) = none
  | [], _ => rfl
  | a :: r, h => by
    show (if eqv (dN a) (dN k) then _ else getK (kv1 r) (dN k)) = none
    rw [dN_eq, if_neg (by simp; exact fun z => h (by rw [z]; exact List.mem_cons_self ..))]
    exact getK_kv1 k r fun z => h (List.mem_cons_of_mem _ z)
theorem putK_kv1 (k : Nat) : ∀ ks : List Nat, k ∈ ks → putK (kv1 ks) (dN k) (.fz (.bl true)) = kv1 ks
  | [], h => by cases h
  | a :: r, h => by
    show (if eqv (dN a) (dN k) then (dN a, O.fz (.bl true)) :: kv1 r else (dN a, O.fz (.bl true)) :: putK (kv1 r) (dN k) (.fz (.bl true))) = (dN a, O.fz (.bl true)) :: kv1 r
    rw [dN_eq]
    by_cases e : a = k
    · rw [if_pos (by simpa using e)]
    · rw [if_neg (by simpa using e)]
      rcases List.mem_cons.mp h with h | h
      · exact absurd h.symm e
      · rw [putK_kv1 k r h]
theorem mrg_dict {a b : D} : ∀ (l acc : List Nat) (x : Option O), acc.Nodup → acc.length + l.length ≤ line → ∃ ks y, ks.Nodup ∧ (∀ z, z ∈ ks ↔ z ∈ acc ∨ z ∈ l) ∧
    dcompL [2] (.nm 2) tT (eP (pV 2)) (eC (.bl true)) (l.map dN) [some (.fz a), some (.fz b), x] (kv1 acc) = .ok (kv1 ks) [some (.fz a), some (.fz b), y]
  | [], acc, x, nd, _ => ⟨acc, x, nd, fun z => by simp, rfl⟩
  | k :: l, acc, x, nd, hz => by
    have unf : dcompL [2] (.nm 2) tT (eP (pV 2)) (eC (.bl true)) ((k :: l).map dN) [some (.fz a), some (.fz b), x] (kv1 acc) =
        if (leafD (dN k) && decide ((kv1 acc).length < line)) = true then dcompL [2] (.nm 2) tT (eP (pV 2)) (eC (.bl true)) (l.map dN) [some (.fz a), some (.fz b), some (.fz (dN k))] (putK (kv1 acc) (dN k) (.fz (.bl true))) else .st := rfl
    have hl : (leafD (dN k) && decide ((kv1 acc).length < line)) = true := by
      have : (kv1 acc).length = acc.length := List.length_map _
      rw [this, decide_eq_true (by simp at hz; omega)]; rfl
    by_cases hk : k ∈ acc
    · obtain ⟨ks, y, h1, h2, h3⟩ := mrg_dict (a := a) (b := b) l acc (some (.fz (dN k))) nd (by simp at hz; omega)
      refine ⟨ks, y, h1, fun z => ?_, ?_⟩
      · rw [h2, List.mem_cons]
        constructor
        · rintro (h | h)
          · exact .inl h
          · exact .inr (.inr h)
        · rintro (h | h | h)
          · exact .inl h
          · exact .inl (h ▸ hk)
          · exact .inr h
      · rw [unf, if_pos hl, putK_kv1 k acc hk, h3]
    · obtain ⟨ks, y, h1, h2, h3⟩ := mrg_dict (a := a) (b := b) l (acc ++ [k]) (some (.fz (dN k))) (List.nodup_append.mpr ⟨nd, by simp, fun p hp q hq e => hk (by rw [List.mem_singleton.mp hq] at e; rw [← e]; exact hp)⟩) (by simp at hz ⊢; omega)
      refine ⟨ks, y, h1, fun z => ?_, ?_⟩
      · rw [h2, List.mem_append, List.mem_singleton, List.mem_cons]
        constructor
        · rintro ((h | h) | h)
          · exact .inl h
          · exact .inr (.inl h)
          · exact .inr (.inr h)
        · rintro (h | h | h)
          · exact .inl (.inl h)
          · exact .inl (.inr h)
          · exact .inr h
      · rw [unf, if_pos hl, putK_new _ _ (getK_kv1 k acc hk)]
        have : kv1 acc ++ [(dN k, O.fz (.bl true))] = kv1 (acc ++ [k]) := by unfold kv1; rw [List.map_append]; rfl
        rw [this, h3]
theorem ints_kv1 : ∀ ks : List Nat, intsOf (ks.map dN) = some (ks.map fun (k : Nat) => (k : Int))
  | [] => rfl
  | k :: r => by
    show (intsOf (r.map dN)).map ((k : Int) :: ·) = _
    rw [ints_kv1 r]; rfl
theorem perm_mrg {ks a b : List Nat} (nd : ks.Nodup) (h : ∀ z, z ∈ ks ↔ z ∈ a ∨ z ∈ b) (hb : ∀ z, z ∈ a ∨ z ∈ b → z < 13) : (mrg a b).Perm ks := by
  have nd2 : (mrg a b).Nodup := (mrg_pw a b).imp fun h => Nat.ne_of_lt h
  refine (List.perm_ext_iff_of_nodup nd2 nd).mpr fun z => ?_
  rw [mem_mrg, h]
  exact ⟨fun q => q.2, fun q => ⟨hb z q, q⟩⟩
theorem sortI_mrg {ks a b : List Nat} (nd : ks.Nodup) (h : ∀ z, z ∈ ks ↔ z ∈ a ∨ z ∈ b) (hb : ∀ z, z ∈ a ∨ z ∈ b → z < 13) : ((ks.map fun (k : Nat) => (k : Int)).mergeSort fun a b => decide (a ≤ b)) = (mrg a b).map fun (k : Nat) => (k : Int) := by
  have p := perm_mrg nd h hb
  refine (le_perm_eq (((p.map fun (k : Nat) => (k : Int)).trans (List.mergeSort_perm _ _).symm)) ?_ (sortI_pw _)).symm
  exact List.pairwise_map.mpr ((mrg_pw a b).imp fun h => by omega)
theorem sortI_of {ks : List Nat} (hl : ks.length < 64) {l : List Nat} (h : ((ks.map fun (k : Nat) => (k : Int)).mergeSort fun a b => decide (a ≤ b)) = l.map fun (k : Nat) => (k : Int)) : opSortI (O.dic (kv1 ks)).fr = some (.lst (l.map fun k => .fz (dN k))) := by
  have e1 : (O.dic (kv1 ks)).fr = .dic (ks.map fun k => (dN k, .bl true)) := by
    show D.dic (frk (ks.map fun k => (dN k, O.fz (.bl true)))) = _
    rw [frk_map]
    rfl
  rw [e1]
  show (match intsOf ((ks.map fun k => (dN k, D.bl true)).map fun p => p.1) with
    | some ks => if ks.length < 64 then some (O.lst ((ks.mergeSort fun a b => decide (a ≤ b)).map fun i => .fz (.int i))) else none
    | none => none) = _
  have e2 : (ks.map fun k => (dN k, D.bl true)).map (fun p => p.1) = ks.map dN := by rw [List.map_map]; rfl
  rw [e2, ints_kv1]
  show (if (ks.map fun (k : Nat) => (k : Int)).length < 64 then _ else _) = _
  rw [List.length_map, if_pos hl, h, List.map_map]
  rfl
theorem merged_ok {a b : List Nat} (ha : ∀ x ∈ a, x < 13) (hb : ∀ x ∈ b, x < 13) (hl : a.length + b.length ≤ 1000) : sem_merged [.fz (dNs a), .fz (dNs b)] = .ok (.lst ((mrg a b).map fun k => .fz (dN k))) [] := by
  have hz : a.length + b.length ≤ line := by unfold line; omega
  obtain ⟨ks, y, nd, hm, hd⟩ := mrg_dict (a := dNs a) (b := dNs b) (a ++ b) [] none List.nodup_nil (by simpa using hz)
  have hm' : ∀ z, z ∈ ks ↔ z ∈ a ∨ z ∈ b := fun z => by rw [hm z]; simp
  have hk : ∀ z, z ∈ a ∨ z ∈ b → z < 13 := fun z h => h.elim (ha z) (hb z)
  have hlen : ks.length < 64 := by
    have := (perm_mrg nd hm' hk).length_eq
    have := lenL_mrg a b
    omega
  have hs := sortI_of hlen (sortI_mrg nd hm' hk)
  rw [fr_dic] at hs
  have hc : eDCompL [2] (.nm 2) (iE (e2 opAdd (eP (pV 0)) (eP (pV 1)))) tT (eP (pV 2)) (eC (.bl true)) [some (.fz (dNs a)), some (.fz (dNs b)), none] = .ok (.dic (kv1 ks)) [some (.fz (dNs a)), some (.fz (dNs b)), none] := by
    have hi : iE (e2 opAdd (eP (pV 0)) (eP (pV 1))) [some (.fz (dNs a)), some (.fz (dNs b)), none] = .ok ((a ++ b).map dN) [some (.fz (dNs a)), some (.fz (dNs b)), none] := by
      simp_arith [hz]
      rw [List.map_append]
    unfold eDCompL
    rw [hi]
    have hd' : dcompL [2] (.nm 2) tT (eP (pV 2)) (eC (.bl true)) ((a ++ b).map dN) [some (.fz (dNs a)), some (.fz (dNs b)), none] [] = .ok (kv1 ks) [some (.fz (dNs a)), some (.fz (dNs b)), y] := hd
    have hf : ownFree [2] [some (O.fz (dNs a)), some (.fz (dNs b)), none] = true := rfl
    simp only [R.bind, hf, Bool.not_true, Bool.false_eq_true, if_false, hd']
    rfl
  unfold sem_merged body_merged
  simp_arith [hc, hs]
theorem setP_sc {i : Nat} {l : Pth} {k e : Ex} {ρ ρ1 ρ2 : Env} {x o : O} {π : List Nat} {os : List O} {n : Nat} {kd : Int} (he : e ρ = .ok x ρ1) (h1 : ρ1[i]? = some (some o)) (hl : l ρ1 o = some (π, .lst os)) (hk : k (ρ1.set i none) = .ok (.fz (.int kd)) ρ2) (hn : idx os.length kd = some n) :
    sSetP i l k e ρ = .ok .nx (ρ2.set i (some (putAt π o (.lst (os.set n x))))) := by
  unfold sSetP
  rw [he]
  show (match ρ1[i]? with | some (some o) => _ | _ => _) = _
  rw [h1]
  simp only [hl, hk, R.bind, fr_f]
  show (match idx os.length kd with | some n => _ | none => _) = _
  rw [hn]
theorem is_closed_ok (al : List Nat) (s : ScM) : sem_Scanner_is_closed [oSc al s] = .ok (.fz (.bl (decide (s.up.length = 0)))) [some (oSc al s)] := by
  have h : opLen (oFrs s.up s.tp).fr = some (.fz (dN (s.up.length + 1))) := by
    unfold opLen
    rw [len_frs]; rfl
  unfold sem_Scanner_is_closed body_Scanner_is_closed
  have e : decide (s.up.length + 1 = 1) = decide (s.up.length = 0) := by rw [decide_eq_decide]; omega
  simp_arith [sf_frames, h, e]
def PlOk (n : Nat) (l : List Nat) : Prop := (∀ x ∈ l, 1 ≤ x ∧ x ≤ n) ∧ l.length ≤ 13
def PtOk (n : Nat) (p : PtM) : Prop := PlOk n p.fst ∧ PlOk n p.lst
def FolOk (n : Nat) (F : List (List Nat)) : Prop := F.length = n ∧ ∀ l ∈ F, PlOk n l
theorem PlOk.mono {n m : Nat} {l : List Nat} (h : PlOk n l) (z : n ≤ m) : PlOk m l := ⟨fun x hx => ⟨(h.1 x hx).1, Nat.le_trans (h.1 x hx).2 z⟩, h.2⟩
theorem PtOk.mono {n m : Nat} {p : PtM} (h : PtOk n p) (z : n ≤ m) : PtOk m p := ⟨h.1.mono z, h.2.mono z⟩
theorem PlOk.nil (n : Nat) : PlOk n [] := ⟨fun _ h => (by cases h), by simp⟩
theorem PlOk.mrg {n : Nat} {a b : List Nat} (ha : PlOk n a) (hb : PlOk n b) : PlOk n (mrg a b) := ⟨fun x hx => by
  rcases (mem_mrg.mp hx).2 with h | h
  · exact ha.1 x h
  · exact hb.1 x h, lenL_mrg a b⟩
theorem PlOk.lt {n : Nat} {a : List Nat} (ha : PlOk n a) (hn : n ≤ 12) : ∀ x ∈ a, x < 13 := fun x hx => by have := (ha.1 x hx).2; omega
theorem mergedP {n : Nat} (hn : n ≤ 12) {a b : List Nat} (ha : PlOk n a) (hb : PlOk n b) : sem_merged [.fz (dNs a), .fz (dNs b)] = .ok (.lst ((mrg a b).map fun k => .fz (dN k))) [] := merged_ok (ha.lt hn) (hb.lt hn) (by have := ha.2; have := hb.2; omega)
theorem fr_mrg (l : List Nat) : frs (l.map fun k => O.fz (dN k)) = l.map dN := y_frsfz dN l
def jnM (F : List (List Nat)) (l f : List Nat) : List (List Nat) := l.foldl (fun F p => F.set (p - 1) (mrg (F.getD (p - 1) []) f)) F
theorem FolOk.get {n : Nat} {F : List (List Nat)} (h : FolOk n F) (k : Nat) : PlOk n (F.getD k []) := by
  by_cases hk : k < F.length
  · exact h.2 _ (getD_mem [] hk)
  · rw [List.getD_eq_getElem?_getD, List.getElem?_eq_none (by omega)]
    exact PlOk.nil n
theorem FolOk.set {n : Nat} {F : List (List Nat)} (h : FolOk n F) (k : Nat) {l : List Nat} (hl : PlOk n l) : FolOk n (F.set k l) := ⟨by rw [List.length_set]; exact h.1, fun x hx => by
  rcases List.mem_or_eq_of_mem_set hx with h1 | h1
  · exact h.2 x h1
  · rw [h1]; exact hl⟩
theorem FolOk.jn {n : Nat} {f : List Nat} (hf : PlOk n f) : ∀ {l : List Nat} {F : List (List Nat)}, FolOk n F → FolOk n (jnM F l f)
  | [], F, h => h
  | p :: l, F, h => by
    show FolOk n (jnM (F.set (p - 1) (mrg (F.getD (p - 1) []) f)) l f)
    exact FolOk.jn hf (h.set _ ((h.get _).mrg hf))
theorem item_fol {F : List (List Nat)} {q : Nat} (h : q < F.length) : itemO (oFol F) (dN (q + 1)) = some (.fz (dNs (F.getD q []))) := by
  show (idx (O.lst [] :: F.map fun l => .fz (dNs l)).length ((q + 1 : Nat) : Int)).bind (fun k => (O.lst [] :: F.map fun l => .fz (dNs l))[k]?) = _
  rw [idx_nat _ _ (by simp; exact h)]
  show (F.map fun l => O.fz (dNs l))[q]? = _
  simp [h]
theorem set_fol {F : List (List Nat)} (q : Nat) (l : List Nat) : O.lst ((O.lst [] :: F.map fun l => .fz (dNs l)).set (q + 1) (.fz (dNs l))) = oFol (F.set q l) := by
  rw [List.set_cons_succ]
  unfold oFol
  rw [List.map_set]
theorem join_ok {n : Nat} (hn : n ≤ 12) (al : List Nat) (s : ScM) (fr : O) {l f : List Nat} (hF : FolOk n s.fol) (hl : PlOk n l) (hf : PlOk n f) :
    sem_Scanner__join [oSg al s fr, .fz (dNs l), .fz (dNs f)] = .ok (.fz .non) [some (oSg al { s with fol := jnM s.fol l f } fr)] := by
  unfold sem_Scanner__join body_Scanner__join
  simp_arith []
  generalize hfor : forL _ _ _ _ = r
  obtain ⟨⟨F, c⟩, rfl, hI, hI2⟩ := for_of hfor (fun (p : List (List Nat) × Option O) => [some (oSg al { s with fol := p.1 } fr), some (.fz (dNs l)), some (.fz (dNs f)), p.2]) (fun i p => p.1 = jnM s.fol (l.take i) f ∧ FolOk n p.1) (s.fol, none) rfl ⟨rfl, hF⟩ (by
    rintro i d ⟨F, c⟩ hd ⟨hI, hI2⟩
    obtain ⟨p, hp, rfl⟩ := map_at hd
    simp only at hI hI2
    obtain ⟨p1, p2⟩ := hl.1 p (List.mem_of_getElem? hp)
    obtain ⟨q, rfl⟩ : ∃ q, p = q + 1 := ⟨p - 1, by omega⟩
    have hq : q < F.length := by rw [hI2.1]; omega
    refine ⟨(F.set q (mrg (F.getD q []) f), some (.fz (dN (q + 1)))), ?_, ?_, ?_⟩
    · rw [x_asgnN, if_pos (by simp)]
      have he : (eFz (eCall sem_merged [.v (eP (pIx (pFld (pV 0) "follow") (pV 3))), .v (eP (pV 2))])) [some (oSg al { s with fol := F } fr), some (.fz (dNs l)), some (.fz (dNs f)), some (.fz (dN (q + 1)))] = .ok (.fz (dNs (mrg (F.getD q []) f))) [some (oSg al { s with fol := F } fr), some (.fz (dNs l)), some (.fz (dNs f)), some (.fz (dN (q + 1)))] := by
        simp_arith [sf_follow, item_fol hq, mergedP hn (hI2.get q) hf, fr_mrg]
      have := setP_sc (i := 0) (l := ptFld ptV "follow") (k := eP (pV 3)) (n := q + 1) he rfl (pt_fol al { s with fol := F } fr _) rfl (idx_nat _ _ (by simp; exact hq))
      simp only [List.set_cons_zero, List.set_cons_succ]
      rw [x_blk1, this, set_fol, put_fol]
      rfl
    · simp only
      rw [hI, take_at hp]
      unfold jnM
      rw [List.foldl_append]
      rfl
    · exact hI2.set _ ((hI2.get q).mrg hf))
  rw [List.length_map, List.take_length] at hI
  simp only at hI
  subst hI
  simp_arith []
def oPt (p : PtM) : O := .ins "Part" [("nullable", .fz (.bl p.nul)), ("first", .fz (dNs p.fst)), ("last", .fz (dNs p.lst))]
theorem fr_oPt (p : PtM) : (oPt p).fr = dPt p := by rfl
theorem part_ok (b : Bool) (f l : List Nat) : sem_Part_init [.ins "Part" [], .fz (.bl b), .fz (dNs f), .fz (dNs l)] = .ok (.fz .non) [some (oPt ⟨b, f, l⟩)] := by rfl
def rowS (w : List (List Nat) × PtM) (p : PtM) : List (List Nat) × PtM := (jnM w.1 w.2.lst p.fst, ⟨w.2.nul && p.nul, if w.2.nul then mrg w.2.fst p.fst else w.2.fst, if p.nul then mrg w.2.lst p.lst else p.lst⟩)
def rowM (F : List (List Nat)) (b : List PtM) : List (List Nat) × PtM := b.foldl rowS (F, ⟨true, [], []⟩)
def WOk (n : Nat) (w : List (List Nat) × PtM) : Prop := FolOk n w.1 ∧ PtOk n w.2
theorem WOk.row {n : Nat} {w : List (List Nat) × PtM} {p : PtM} (h : WOk n w) (hp : PtOk n p) : WOk n (rowS w p) := by
  refine ⟨FolOk.jn hp.1 h.1, ?_, ?_⟩
  · show PlOk n (if w.2.nul then _ else _)
    split
    · exact h.2.1.mrg hp.1
    · exact h.2.1
  · show PlOk n (if p.nul then _ else _)
    split
    · exact h.2.2.mrg hp.2
    · exact hp.2
theorem WOk.rows {n : Nat} : ∀ {b : List PtM} {w : List (List Nat) × PtM}, WOk n w → (∀ p ∈ b, PtOk n p) → WOk n (b.foldl rowS w)
  | [], w, h, _ => h
  | p :: b, w, h, hb => by
    show WOk n (b.foldl rowS (rowS w p))
    exact WOk.rows (WOk.row h (hb p (List.mem_cons_self ..))) fun q hq => hb q (List.mem_cons_of_mem _ hq)
theorem rowM_ok {n : Nat} {F : List (List Nat)} {b : List PtM} (h : FolOk n F) (hb : ∀ p ∈ b, PtOk n p) : WOk n (rowM F b) := WOk.rows ⟨h, PlOk.nil n, PlOk.nil n⟩ hb
theorem row_sem {n : Nat} (hn : n ≤ 12) (al : List Nat) (s : ScM) (fr : O) {b : List PtM} (hF : FolOk n s.fol) (hb : ∀ p ∈ b, PtOk n p) :
    sem_Scanner__row [oSg al s fr, .fz (.lst (b.map dPt))] = .ok (.fz (dPt (rowM s.fol b).2)) [some (oSg al { s with fol := (rowM s.fol b).1 } fr)] := by
  unfold sem_Scanner__row body_Scanner__row
  have h0 : sem_Part_init [.ins "Part" [], .fz (.bl true), .fz (.lst []), .fz (.lst [])] = .ok (.fz .non) [some (oPt ⟨true, [], []⟩)] := part_ok true [] []
  simp_arith [h0, fr_oPt]
  generalize hfor : forL _ _ _ _ = r
  obtain ⟨⟨w, c3, c4, c5⟩, rfl, hI, hI2⟩ := for_of hfor (fun (p : (List (List Nat) × PtM) × Option O × Option O × Option O) => [some (oSg al { s with fol := p.1.1 } fr), some (.fz (.lst (b.map dPt))), some (.fz (dPt p.1.2)), p.2.1, p.2.2.1, p.2.2.2]) (fun i p => p.1 = rowM s.fol (b.take i) ∧ WOk n p.1) ((s.fol, ⟨true, [], []⟩), none, none, none) rfl ⟨rfl, hF, PlOk.nil n, PlOk.nil n⟩ (by
    rintro i d ⟨⟨F, w⟩, c3, c4, c5⟩ hd ⟨hI, hI2⟩
    obtain ⟨p, hp, rfl⟩ := map_at hd
    simp only at hI hI2
    have hp2 := hb p (List.mem_of_getElem? hp)
    have ej := join_ok hn al { s with fol := F } fr hI2.1 hI2.2.2 hp2.1
    have em1 := mergedP hn hI2.2.1 hp2.1
    have em2 := mergedP hn hI2.2.2 hp2.2
    refine ⟨(rowS (F, w) p, some (.fz (dPt p)), some (.fz (dNs (rowS (F, w) p).2.fst)), some (.fz (dNs (rowS (F, w) p).2.lst))), ?_, ?_, hI2.row hp2⟩
    · obtain ⟨wn, wf, wl⟩ := w
      obtain ⟨pn, pf, pl⟩ := p
      simp only at ej em1 em2
      cases wn <;> cases pn <;> (simp_arith [x_eMeth, ej, pf_nul, pf_fst, pf_lst, em1, em2, part_ok, fr_oPt, fr_mrg]; rfl)
    · simp only
      rw [take_at hp]
      unfold rowM
      rw [List.foldl_append]
      show rowS (F, w) p = rowS (rowM s.fol (b.take i)) p
      rw [hI])
  rw [List.length_map, List.take_length] at hI
  simp only at hI
  subst hI
  simp_arith []
def choS (w : List (List Nat) × PtM) (b : List PtM) : List (List Nat) × PtM := ((rowM w.1 b).1, ⟨w.2.nul || (rowM w.1 b).2.nul, mrg w.2.fst (rowM w.1 b).2.fst, mrg w.2.lst (rowM w.1 b).2.lst⟩)
def choM (F : List (List Nat)) (b : List PtM) (bs : List (List PtM)) : List (List Nat) × PtM := bs.foldl choS (rowM F b)
theorem WOk.cho {n : Nat} {w : List (List Nat) × PtM} {b : List PtM} (h : WOk n w) (hb : ∀ p ∈ b, PtOk n p) : WOk n (choS w b) := by
  have := rowM_ok h.1 hb
  exact ⟨this.1, h.2.1.mrg this.2.1, h.2.2.mrg this.2.2⟩
theorem WOk.chos {n : Nat} : ∀ {bs : List (List PtM)} {w : List (List Nat) × PtM}, WOk n w → (∀ b ∈ bs, ∀ p ∈ b, PtOk n p) → WOk n (bs.foldl choS w)
  | [], w, h, _ => h
  | p :: b, w, h, hb => by
    show WOk n (b.foldl choS (choS w p))
    exact WOk.chos (WOk.cho h (hb p (List.mem_cons_self ..))) fun q hq => hb q (List.mem_cons_of_mem _ hq)
abbrev dBr (b : List PtM) : D := .lst (b.map dPt)
theorem slice_tail (d : D) (r : List D) : sliceD (.lst (d :: r)) (some ((1 : Nat) : Int)) none = some (.lst (r.map .fz)) := by
  show some (O.lst (((((d :: r).take (d :: r).length).drop (clampI (d :: r).length 1)).map .fz))) = _
  have : clampI (d :: r).length 1 = 1 := by
    unfold clampI
    rw [if_pos (by decide), List.length_cons]
    show min 1 (r.length + 1) = 1
    omega
  rw [this, List.take_length]
  rfl
theorem choice_sem {n : Nat} (hn : n ≤ 12) (al : List Nat) (s : ScM) (fr : O) {b : List PtM} {bs : List (List PtM)} (hF : FolOk n s.fol) (hb : ∀ c ∈ b :: bs, ∀ p ∈ c, PtOk n p) :
    sem_Scanner__choice [oSg al s fr, .fz (.lst ((b :: bs).map dBr))] = .ok (.fz (dPt (choM s.fol b bs).2)) [some (oSg al { s with fol := (choM s.fol b bs).1 } fr)] := by
  unfold sem_Scanner__choice body_Scanner__choice
  have h0 := row_sem hn al s fr hF (hb b (List.mem_cons_self ..))
  have w0 := rowM_ok hF (hb b (List.mem_cons_self ..))
  simp_arith [x_eMeth, h0, slice_tail]
  generalize hfor : forL _ _ _ _ = r
  obtain ⟨⟨w, c3, c4, c5⟩, rfl, hI, hI2⟩ := for_of hfor (fun (p : (List (List Nat) × PtM) × Option O × Option O × Option O) => [some (oSg al { s with fol := p.1.1 } fr), some (.fz (.lst (dBr b :: bs.map dBr))), some (.fz (dPt p.1.2)), p.2.1, p.2.2.1, p.2.2.2]) (fun i p => p.1 = choM s.fol b (bs.take i) ∧ WOk n p.1) (rowM s.fol b, none, none, none) rfl ⟨rfl, w0⟩ (by
    rintro i d ⟨⟨F, w⟩, c3, c4, c5⟩ hd ⟨hI, hI2⟩
    obtain ⟨c, hp, rfl⟩ := map_at hd
    simp only at hI hI2
    have hc := hb c (List.mem_cons_of_mem _ (List.mem_of_getElem? hp))
    have er := row_sem hn al { s with fol := F } fr hI2.1 hc
    have wr := rowM_ok hI2.1 hc
    have em1 := mergedP hn hI2.2.1 wr.2.1
    have em2 := mergedP hn hI2.2.2 wr.2.2
    refine ⟨(choS (F, w) c, some (.fz (dBr c)), some (.fz (dPt (rowM F c).2)), some (.fz (.bl (w.nul || (rowM F c).2.nul)))), ?_, ?_, hI2.cho hc⟩
    · generalize hR : rowM F c = R at *
      obtain ⟨RF, ⟨rn, rf, rl⟩⟩ := R
      obtain ⟨wn, wf, wl⟩ := w
      have hch : choS (F, ⟨wn, wf, wl⟩) c = (RF, ⟨wn || rn, mrg wf rf, mrg wl rl⟩) := by
        unfold choS
        rw [hR]
      rw [hch]
      simp only at er em1 em2
      cases wn <;> (simp_arith [x_eMeth, er, hR, pf_nul, pf_fst, pf_lst, em1, em2, part_ok, fr_oPt, fr_mrg]; rfl)
    · simp only
      rw [take_at hp]
      unfold choM
      rw [List.foldl_append]
      show choS (F, w) c = choS (choM s.fol b (bs.take i)) c
      rw [hI])
  rw [List.length_map, List.take_length] at hI
  simp only at hI
  subst hI
  simp_arith []
theorem appP_sc {i : Nat} {l : Pth} {e : Ex} {ρ ρ2 : Env} {x o : O} {π : List Nat} {os : List O} (h1 : ρ[i]? = some (some o)) (hl : l ρ o = some (π, .lst os)) (he : e (ρ.set i none) = .ok x ρ2) (hz : os.length < line) :
    sAppP i l e ρ = .ok .nx (ρ2.set i (some (putAt π o (.lst (os ++ [x]))))) := by
  unfold sAppP rAppP
  simp only [h1, hl, he]
  rw [if_pos hz]
  rfl
theorem app_cur (al : List Nat) (s : ScM) (p : PtM) {rest : Env} {e : Ex} (he : e (none :: rest) = .ok (.fz (dPt p)) (none :: rest)) (hz : s.tp.2.length < line) :
    sAppP 0 (ptIx (ptIx (ptFld ptV "frames") (pC (.int (-1)))) (pC (.int (-1)))) e (some (oSc al s) :: rest) = .ok .nx (some (oSc al { s with tp := (s.tp.1, s.tp.2 ++ [p]) }) :: rest) := by
  rw [appP_sc (os := s.tp.2.map fun p => .fz (dPt p)) rfl (pt_cur al s _) he (by simpa using hz)]
  have : O.lst ((s.tp.2.map fun p => .fz (dPt p)) ++ [.fz (dPt p)]) = oBr (s.tp.2 ++ [p]) := by
    unfold oBr
    rw [List.map_append]; rfl
  rw [this, put_cur]
  rfl
theorem app_frs (al : List Nat) (s : ScM) {rest : Env} (hz : s.up.length + 1 < line) :
    sAppP 0 (ptFld ptV "frames") (eLst [eLst []]) (some (oSc al s) :: rest) = .ok .nx (some (oSc al { s with up := s.tp :: s.up, tp := ([], []) }) :: rest) := by
  rw [appP_sc (os := s.up.reverse.map oFr ++ [oFr s.tp]) (x := .lst [.lst []]) (ρ2 := none :: rest) rfl (pt_frs al s _) rfl (by simpa using hz)]
  have : O.lst ((s.up.reverse.map oFr ++ [oFr s.tp]) ++ [.lst [.lst []]]) = oFrs (s.tp :: s.up) ([], []) := by
    unfold oFrs
    rw [List.reverse_cons, List.map_append]; rfl
  rw [this, put_frs]
  rfl
theorem app_top (al : List Nat) (s : ScM) {rest : Env} (hz : s.tp.1.length + 1 < line) :
    sAppP 0 (ptIx (ptFld ptV "frames") (pC (.int (-1)))) (eLst []) (some (oSc al s) :: rest) = .ok .nx (some (oSc al { s with tp := (s.tp.1 ++ [s.tp.2], []) }) :: rest) := by
  rw [appP_sc (os := s.tp.1.map oBr ++ [oBr s.tp.2]) (x := .lst []) (ρ2 := none :: rest) rfl (pt_top al s _) rfl (by simpa using hz)]
  have : O.lst ((s.tp.1.map oBr ++ [oBr s.tp.2]) ++ [.lst []]) = oFr (s.tp.1 ++ [s.tp.2], []) := by
    unfold oFr
    rw [List.map_append]; rfl
  rw [this, put_top]
  rfl
theorem app_mks (al : List Nat) (s : ScM) (m : Option Nat) {rest : Env} {e : Ex} (he : e (none :: rest) = .ok (.fz (dMk m)) (none :: rest)) (hz : s.marks.length + 1 < line) :
    sAppP 0 (ptFld ptV "marks") e (some (oSc al s) :: rest) = .ok .nx (some (oSc al { s with marks := s.marks ++ [m] }) :: rest) := by
  rw [appP_sc (os := .fz .non :: s.marks.map fun k => .fz (dMk k)) rfl (pt_mks al s _) he (by simpa using hz)]
  have : O.lst ((.fz .non :: s.marks.map fun k => .fz (dMk k)) ++ [.fz (dMk m)]) = oMks (s.marks ++ [m]) := by
    unfold oMks
    rw [List.map_append]; rfl
  rw [this, put_mks]
  rfl
theorem app_fol (al : List Nat) (s : ScM) {rest : Env} (hz : s.fol.length + 1 < line) :
    sAppP 0 (ptFld ptV "follow") (eFz (eLst [])) (some (oSc al s) :: rest) = .ok .nx (some (oSc al { s with fol := s.fol ++ [[]] }) :: rest) := by
  rw [appP_sc (os := .lst [] :: s.fol.map fun l => .fz (dNs l)) (x := .fz (.lst [])) (ρ2 := none :: rest) rfl (pt_fol al s (oFrs s.up s.tp) _) rfl (by simpa using hz)]
  have : O.lst ((.lst [] :: s.fol.map fun l => .fz (dNs l)) ++ [.fz (.lst [])]) = oFol (s.fol ++ [[]]) := by
    unfold oFol
    rw [List.map_append]; rfl
  rw [this, put_fol]
  rfl
theorem pop_frs (al : List Nat) (s : ScM) {f : FrM} {up : List FrM} (hu : s.up = f :: up) {rest : Env} : ePopP 0 (ptFld ptV "frames") (some (oSc al s) :: rest) = .ok (oFr s.tp) (some (oSc al { s with up := up, tp := f }) :: rest) := by
  unfold ePopP
  simp only [List.getElem?_cons_zero]
  rw [pt_frs]
  unfold oFrs
  simp only [List.getLast?_append, List.getLast?_singleton, Option.some_or, List.dropLast_concat]
  have : O.lst (s.up.reverse.map oFr) = oFrs up f := by
    rw [hu]
    unfold oFrs
    rw [List.reverse_cons, List.map_append]; rfl
  rw [this, put_frs]
  rfl
theorem faug_sc (al : List Nat) (s : ScM) {rest : Env} : sFAug 0 "signs" (eC (dN 1)) (some (oSc al s) :: rest) = .ok .nx (some (oSc al { s with signs := s.signs + 1 }) :: rest) := by rfl
theorem add_ok (al : List Nat) (s : ScM) (p : PtM) (hz : s.tp.2.length < line) : sem_Scanner__add [oSc al s, .fz (dPt p)] = .ok (.fz .non) [some (oSc al { s with tp := (s.tp.1, s.tp.2 ++ [p]), star := true })] := by
  unfold sem_Scanner__add body_Scanner__add
  have h := app_cur al s p (rest := [some (.fz (dPt p))]) (e := eP (pV 1)) rfl hz
  simp_arith [h, st_starred]
def choF (F : List (List Nat)) (f : FrM) : List (List Nat) × PtM := match f.1 ++ [f.2] with
  | [] => (F, ⟨true, [], []⟩)
  | b :: bs => choM F b bs
theorem fr_oBr (b : List PtM) : (oBr b).fr = dBr b := by
  show D.lst (frs (b.map fun p => .fz (dPt p))) = _
  rw [y_frsfz]
theorem fr_oFr (f : FrM) : (oFr f).fr = .lst ((f.1 ++ [f.2]).map dBr) := by
  show D.lst (frs (f.1.map oBr ++ [oBr f.2])) = _
  rw [frs_app, frs_map, List.map_append]
  have : (f.1.map fun d => (oBr d).fr) = f.1.map dBr := List.map_congr_left fun b _ => fr_oBr b
  rw [this]
  show D.lst (_ ++ [(oBr f.2).fr]) = _
  rw [fr_oBr]; rfl
def FrOk (n : Nat) (f : FrM) : Prop := ∀ b ∈ f.1 ++ [f.2], ∀ p ∈ b, PtOk n p
theorem choF_sem {n : Nat} (hn : n ≤ 12) (al : List Nat) (s : ScM) (fr : O) {f : FrM} (hF : FolOk n s.fol) (hf : FrOk n f) :
    sem_Scanner__choice [oSg al s fr, .fz (.lst ((f.1 ++ [f.2]).map dBr))] = .ok (.fz (dPt (choF s.fol f).2)) [some (oSg al { s with fol := (choF s.fol f).1 } fr)] ∧ WOk n (choF s.fol f) := by
  unfold choF FrOk at *
  cases h : f.1 ++ [f.2] with
  | nil => simp at h
  | cons b bs =>
    rw [h] at hf
    exact ⟨choice_sem hn al s fr hF hf, WOk.chos (rowM_ok hF (hf b (List.mem_cons_self ..))) fun c hc => hf c (List.mem_cons_of_mem _ hc)⟩
structure ScOk (n : Nat) (s : ScM) : Prop where
  mks : s.marks.length = n
  fol : FolOk n s.fol
  fr : ∀ f ∈ s.tp :: s.up, FrOk n f ∧ f.1.length ≤ s.signs ∧ f.2.length ≤ s.signs
  star : s.star = true → s.tp.2 ≠ []
  sg : n ≤ s.signs ∧ s.up.length ≤ s.signs
theorem FrOk.mono {n m : Nat} {f : FrM} (h : FrOk n f) (z : n ≤ m) : FrOk m f := fun b hb p hp => (h b hb p hp).mono z
theorem FolOk.mono1 {n : Nat} {F : List (List Nat)} (h : FolOk n F) : FolOk (n + 1) (F ++ [[]]) := ⟨by simp [h.1], fun l hl => by
  rcases List.mem_append.mp hl with hl | hl
  · exact (h.2 l hl).mono (Nat.le_succ n)
  · rw [List.mem_singleton.mp hl]; exact PlOk.nil _⟩
theorem FrOk.nil (n : Nat) : FrOk n ([], []) := fun b hb p hp => by
  have : b = [] := by simpa using hb
  rw [this] at hp; cases hp
theorem FrOk.push {n : Nat} {f : FrM} {p : PtM} (h : FrOk n f) (hp : PtOk n p) : FrOk n (f.1, f.2 ++ [p]) := fun b hb q hq => by
  rcases List.mem_append.mp hb with hb | hb
  · exact h b (List.mem_append_left _ hb) q hq
  · rw [List.mem_singleton.mp hb] at hq
    rcases List.mem_append.mp hq with hq | hq
    · exact h f.2 (List.mem_append_right _ (List.mem_singleton.mpr rfl)) q hq
    · rw [List.mem_singleton.mp hq]; exact hp
theorem FrOk.bar {n : Nat} {f : FrM} (h : FrOk n f) : FrOk n (f.1 ++ [f.2], []) := fun b hb q hq => by
  rcases List.mem_append.mp hb with hb | hb
  · exact h b hb q hq
  · rw [List.mem_singleton.mp hb] at hq; cases hq
theorem FrOk.cut {n : Nat} {f : FrM} {c : List PtM} {p : PtM} (h : FrOk n f) (e : f.2 = c ++ [p]) : PtOk n p ∧ FrOk n (f.1, c) := ⟨h f.2 (List.mem_append_right _ (List.mem_singleton.mpr rfl)) p (by rw [e]; simp), fun b hb q hq => by
  rcases List.mem_append.mp hb with hb | hb
  · exact h b (List.mem_append_left _ hb) q hq
  · rw [List.mem_singleton.mp hb] at hq
    exact h f.2 (List.mem_append_right _ (List.mem_singleton.mpr rfl)) q (by rw [e]; exact List.mem_append_left _ hq)⟩
theorem add_place_ok (al : List Nat) (s : ScM) (m : Option Nat) (hz : s.tp.2.length < line) (h1 : s.marks.length + 1 < line) (h2 : s.fol.length + 1 < line) : sem_Scanner__add_place [oSc al s, .fz (dMk m)] = .ok (.fz .non) [some (oSc al { s with marks := s.marks ++ [m], fol := s.fol ++ [[]], tp := (s.tp.1, s.tp.2 ++ [⟨false, [s.marks.length + 1], [s.marks.length + 1]⟩]), star := true })] := by
  unfold sem_Scanner__add_place body_Scanner__add_place
  have a1 := app_mks al s m (rest := [some (.fz (dMk m)), none]) (e := eP (pV 1)) rfl h1
  have a2 := app_fol al { s with marks := s.marks ++ [m] } (rest := [some (.fz (dMk m)), none]) h2
  have a3 := len_mks (s.marks ++ [m])
  have a4 : opSub (dN ((s.marks ++ [m]).length + 1)) (dN 1) = some (.fz (dN (s.marks.length + 1))) := by
    rw [sub_dN (by omega)]
    simp
  have a5 := add_ok al { s with marks := s.marks ++ [m], fol := s.fol ++ [[]] } ⟨false, [s.marks.length + 1], [s.marks.length + 1]⟩ hz
  have a6 := part_ok false [s.marks.length + 1] [s.marks.length + 1]
  have e1 : dNs [s.marks.length + 1] = .lst [dN (s.marks.length + 1)] := rfl
  rw [e1] at a6
  simp_arith [a1, a2, sf_marks, a3, a4, a5, a6, x_eMeth, fr_oPt]
theorem item_frs (up : List FrM) (tp : FrM) : itemO (oFrs up tp) (.int (-1)) = some (oFr tp) := itemO_end _ _
theorem item_fr (f : FrM) : itemO (oFr f) (.int (-1)) = some (oBr f.2) := itemO_end _ _
theorem item_br (c : List PtM) (p : PtM) : itemO (oBr (c ++ [p])) (.int (-1)) = some (.fz (dPt p)) := by
  unfold oBr
  rw [List.map_append]
  exact itemO_end _ _
theorem set_star (al : List Nat) (s : ScM) {c : List PtM} {p : PtM} (q : PtM) (hc : s.tp.2 = c ++ [p]) {rest : Env} {e : Ex} (he : e (some (oSc al s) :: rest) = .ok (.fz (dPt q)) (some (oSc al s) :: rest)) :
    sSetP 0 (ptIx (ptIx (ptFld ptV "frames") (pC (.int (-1)))) (pC (.int (-1)))) (eC (.int (-1))) e (some (oSc al s) :: rest) = .ok .nx (some (oSc al { s with tp := (s.tp.1, c ++ [q]) }) :: rest) := by
  have hl := pt_cur al s (some (oSc al s) :: rest)
  rw [setP_sc (os := s.tp.2.map fun p => .fz (dPt p)) (n := c.length) he rfl hl (ρ2 := none :: rest) (kd := -1) rfl (by rw [List.length_map, hc, len_end, idx_end])]
  have : O.lst ((s.tp.2.map fun p => .fz (dPt p)).set c.length (.fz (dPt q))) = oBr (c ++ [q]) := by
    unfold oBr
    rw [hc, List.map_append, List.map_append]
    have := set_end (c.map fun p => O.fz (dPt p)) (.fz (dPt p)) (.fz (dPt q))
    rw [List.length_map] at this
    exact congrArg O.lst this
  rw [this, put_cur]
  rfl
def tkM (al : List Nat) (s : ScM) (c : Nat) : Bool × ScM :=
  if c = 42 ∨ c = 43 ∨ c = 63 then
    if s.star = true then match s.tp.2.getLast? with
      | some p => (true, { s with fol := if c = 63 then s.fol else jnM s.fol p.lst p.fst, tp := (s.tp.1, s.tp.2.dropLast ++ [⟨p.nul || !decide (c = 43), p.fst, p.lst⟩]) })
      | none => (false, s)
    else (false, s)
  else if c = 40 then (true, { s with up := s.tp :: s.up, tp := ([], []), star := false })
  else if c = 41 then match s.up with
    | [] => (false, s)
    | f :: up => (true, { s with fol := (choF s.fol s.tp).1, up := up, tp := (f.1, f.2 ++ [(choF s.fol s.tp).2]), star := true })
  else if c = 124 then (true, { s with tp := (s.tp.1 ++ [s.tp.2], []), star := false })
  else if c = 46 ∨ c ∈ al then (true, { s with marks := s.marks ++ [if c = 46 then none else findN al c], fol := s.fol ++ [[]], tp := (s.tp.1, s.tp.2 ++ [⟨false, [s.marks.length + 1], [s.marks.length + 1]⟩]), star := true })
  else (false, s)
def bmp (s : ScM) : ScM := { s with signs := s.signs + 1 }
theorem bq1 (a b : Nat) : (([a] : List Nat) == [b]) = decide (a = b) := by
  rw [Bool.eq_iff_iff]; simp
theorem in_stars (c : Nat) : ([42, 43, 63] : List Nat).contains c = decide (c = 42 ∨ c = 43 ∨ c = 63) := by
  rw [Bool.eq_iff_iff]; simp
theorem sc_up {n : Nat} {s : ScM} (h : ScOk n s) : ScOk n (bmp s) := ⟨h.mks, h.fol, fun f hf => ⟨(h.fr f hf).1, Nat.le_succ_of_le (h.fr f hf).2.1, Nat.le_succ_of_le (h.fr f hf).2.2⟩, h.star, Nat.le_succ_of_le h.sg.1, Nat.le_succ_of_le h.sg.2⟩
theorem star_false (al : List Nat) (s : ScM) (c : Nat) (h : s.star = false) : sem_Scanner__take_star [oSc al s, .fz (.str [c])] = .ok (.fz (.bl false)) [some (oSc al s)] := by
  unfold sem_Scanner__take_star body_Scanner__take_star
  simp_arith [sf_starred, h]
theorem star_ok {n : Nat} (hn : n ≤ 12) (al : List Nat) {s : ScM} {c : Nat} {cu : List PtM} {p : PtM} (h : s.star = true) (hc : s.tp.2 = cu ++ [p]) (hF : FolOk n s.fol) (hp : PtOk n p) : sem_Scanner__take_star [oSc al s, .fz (.str [c])] =
    .ok (.fz (.bl true)) [some (oSc al { s with fol := if c = 63 then s.fol else jnM s.fol p.lst p.fst, tp := (s.tp.1, cu ++ [⟨p.nul || !decide (c = 43), p.fst, p.lst⟩]) })] := by
  have hS : getF (sgFs al s (oFrs s.up s.tp)) "starred" = some (.fz (.bl true)) := by rw [sf_starred, h]
  have hcur : oBr s.tp.2 = oBr (cu ++ [p]) := by rw [hc]
  have ej := join_ok hn al s (oFrs s.up s.tp) hF hp.2 hp.1
  have hq : ∀ (s' : ScM), (eFz (eCall (semMake "Part" sem_Part_init) [.v (eOr (eP (pFld (pV 2) "nullable")) (e2 opNe (eP (pV 1)) (eC (.str [43])))), .v (eP (pFld (pV 2) "first")), .v (eP (pFld (pV 2) "last"))])) (some (oSc al s') :: [some (.fz (.str [c])), some (.fz (dPt p))]) = .ok (.fz (dPt ⟨p.nul || !decide (c = 43), p.fst, p.lst⟩)) (some (oSc al s') :: [some (.fz (.str [c])), some (.fz (dPt p))]) := by
    intro s'
    obtain ⟨pn, pf, pl⟩ := p
    cases pn <;> (simp_arith [pf_nul, pf_fst, pf_lst, bq1, part_ok, fr_oPt]; rfl)
  unfold sem_Scanner__take_star body_Scanner__take_star
  by_cases h63 : c = 63
  · have hs := set_star al s ⟨p.nul || !decide (c = 43), p.fst, p.lst⟩ hc (hq s)
    rw [if_pos h63]
    simp_arith [hS, sf_frames, item_frs, item_fr, hcur, item_br, bq1, decide_eq_true h63, hs]
  · have hs := set_star al { s with fol := jnM s.fol p.lst p.fst } ⟨p.nul || !decide (c = 43), p.fst, p.lst⟩ hc (hq _)
    rw [if_neg h63]
    simp_arith [hS, sf_frames, item_frs, item_fr, hcur, item_br, bq1, decide_eq_false h63, x_eMeth, pf_fst, pf_lst, ej, hs]
theorem close_no (al : List Nat) (s : ScM) (h : s.up = []) : sem_Scanner__close [oSc al s] = .ok (.fz (.bl false)) [some (oSc al s)] := by
  unfold sem_Scanner__close body_Scanner__close
  have e := is_closed_ok al s
  rw [h] at e
  simp_arith [x_eMeth, e, List.length_nil, decide_true]
theorem close_ok {n : Nat} (hn : n ≤ 12) (al : List Nat) {s : ScM} {f : FrM} {up : List FrM} (hu : s.up = f :: up) (hF : FolOk n s.fol) (hf : FrOk n s.tp) (hz : f.2.length < line) : sem_Scanner__close [oSc al s] =
    .ok (.fz (.bl true)) [some (oSc al { s with fol := (choF s.fol s.tp).1, up := up, tp := (f.1, f.2 ++ [(choF s.fol s.tp).2]), star := true })] := by
  unfold sem_Scanner__close body_Scanner__close
  have e := is_closed_ok al s
  have e0 : decide (s.up.length = 0) = false := by rw [hu]; rfl
  rw [e0] at e
  have ep := pop_frs al s hu (rest := [none])
  obtain ⟨ec, wc⟩ := choF_sem hn al { s with up := up, tp := f } (oFrs up f) hF hf
  have ea := add_ok al { s with fol := (choF s.fol s.tp).1, up := up, tp := f } (choF s.fol s.tp).2 hz
  simp_arith [x_eMeth, e, ep, fr_oFr, ec, ea]
theorem take_sem {n : Nat} (hn : n ≤ 12) (al : List Nat) {s : ScM} (h : ScOk n s) (hsg : s.signs ≤ 12) (hal : al.length ≤ line) (c : Nat) :
    sem_Scanner_take [oSc al s, .fz (.str [c])] = .ok (.fz (.bl (tkM al (bmp s) c).1)) [some (oSc al (tkM al (bmp s) c).2)] := by
  unfold sem_Scanner_take body_Scanner_take
  have hb := faug_sc al s (rest := [some (.fz (.str [c]))])
  have hb : sFAug 0 "signs" (eC (dN 1)) (some (oSc al s) :: [some (.fz (.str [c]))]) = .ok .nx (some (oSc al (bmp s)) :: [some (.fz (.str [c]))]) := hb
  have h' := sc_up h
  have hg : (bmp s).signs ≤ 13 := Nat.succ_le_succ hsg
  generalize bmp s = s' at *
  have hsg' : s'.up.length ≤ 100 ∧ s'.tp.1.length ≤ 100 ∧ s'.tp.2.length ≤ 100 := ⟨by have := h'.sg.2; omega, by have := (h'.fr _ (List.mem_cons_self ..)).2.1; omega, by have := (h'.fr _ (List.mem_cons_self ..)).2.2; omega⟩
  have hmk : s'.marks.length + 1 < line ∧ s'.fol.length + 1 < line := ⟨by rw [h'.mks]; unfold line; omega, by rw [h'.fol.1]; unfold line; omega⟩
  have hz2 : s'.tp.2.length < line := by unfold line; omega
  unfold tkM
  by_cases h1 : c = 42 ∨ c = 43 ∨ c = 63
  · rw [if_pos h1]
    cases hst : s'.star with
    | false =>
      rw [if_neg (by decide)]
      simp_arith [hb, in_stars, decide_eq_true h1, x_eMeth, star_false al s' c hst]
    | true =>
      rw [if_pos rfl]
      have hne := h'.star hst
      obtain ⟨cu, p, hc⟩ : ∃ cu p, s'.tp.2 = cu ++ [p] := ⟨_, _, (List.dropLast_concat_getLast hne).symm⟩
      have hl : s'.tp.2.getLast? = some p := by rw [hc]; simp
      have hd : s'.tp.2.dropLast = cu := by rw [hc]; simp
      have es := star_ok hn al (c := c) hst hc h'.fol (((h'.fr _ (List.mem_cons_self ..)).1).cut hc).1
      rw [hl, hd]
      rw [hst] at es
      simp_arith [hb, in_stars, decide_eq_true h1, x_eMeth, es]
  · rw [if_neg h1]
    by_cases h2 : c = 40
    · rw [if_pos h2]
      have ef := app_frs al s' (rest := [some (.fz (.str [c]))]) (by unfold line; omega)
      simp_arith [hb, in_stars, decide_eq_false h1, bq1, decide_eq_true h2, ef, st_starred]
    · rw [if_neg h2]
      by_cases h3 : c = 41
      · rw [if_pos h3]
        cases hu : s'.up with
        | nil => simp_arith [hb, in_stars, decide_eq_false h1, bq1, decide_eq_false h2, decide_eq_true h3, x_eMeth, close_no al s' hu]
        | cons f up =>
          have ec := close_ok hn al hu h'.fol (h'.fr _ (List.mem_cons_self ..)).1 (by have := (h'.fr f (by rw [hu]; simp)).2.2; unfold line; omega)
          simp_arith [hb, in_stars, decide_eq_false h1, bq1, decide_eq_false h2, decide_eq_true h3, x_eMeth, ec]
      · rw [if_neg h3]
        by_cases h4 : c = 124
        · rw [if_pos h4]
          have et := app_top al s' (rest := [some (.fz (.str [c]))]) (by unfold line; omega)
          simp_arith [hb, in_stars, decide_eq_false h1, bq1, decide_eq_false h2, decide_eq_false h3, decide_eq_true h4, et, st_starred]
        · rw [if_neg h4]
          by_cases h5 : c = 46
          · have ea := add_place_ok al s' none hz2 hmk.1 hmk.2
            rw [if_pos (.inl h5), if_pos h5]
            have ea : sem_Scanner__add_place [oSc al s', .fz .non] = _ := ea
            simp_arith [hb, in_stars, decide_eq_false h1, bq1, decide_eq_false h2, decide_eq_false h3, decide_eq_false h4, decide_eq_true h5, x_eMeth, ea]
          · by_cases h6 : c ∈ al
            · rw [if_pos (.inr h6), if_neg h5]
              obtain ⟨k, hk⟩ : ∃ k, findN al c = some k := ⟨_, (findN_some h6).1⟩
              have ea := add_place_ok al s' (some k) hz2 hmk.1 hmk.2
              have ea : sem_Scanner__add_place [oSc al s', .fz (dN k)] = _ := ea
              have hc : al.contains c = true := by simpa using h6
              rw [hk]
              simp_arith [hb, in_stars, decide_eq_false h1, bq1, decide_eq_false h2, decide_eq_false h3, decide_eq_false h4, decide_eq_false h5, sf_alphabet, hc, index_str hk, x_eMeth, ea]
            · have hc : al.contains c = false := by simpa using h6
              rw [if_neg (by simp [h5, h6])]
              simp_arith [hb, in_stars, decide_eq_false h1, bq1, decide_eq_false h2, decide_eq_false h3, decide_eq_false h4, decide_eq_false h5, sf_alphabet, hc]
theorem take_inv {n : Nat} (al : List Nat) {s : ScM} (h : ScOk n s) (c : Nat) (ht : (tkM al (bmp s) c).1 = true) : ∃ m, m ≤ n + 1 ∧ ScOk m (tkM al (bmp s) c).2 ∧ (tkM al (bmp s) c).2.signs = s.signs + 1 := by
  have hsg : (bmp s).signs = s.signs + 1 := rfl
  have hT : ∀ f ∈ s.tp :: s.up, FrOk n f ∧ f.1.length ≤ s.signs ∧ f.2.length ≤ s.signs := h.fr
  have h1 := hT s.tp (List.mem_cons_self ..)
  have hu1 : ∀ f ∈ s.up, FrOk n f ∧ f.1.length ≤ s.signs + 1 ∧ f.2.length ≤ s.signs + 1 := fun f hf => by
    have := hT f (List.mem_cons_of_mem _ hf)
    exact ⟨this.1, by omega, by omega⟩
  have hs1 := h.sg
  unfold tkM at ht ⊢
  by_cases q1 : c = 42 ∨ c = 43 ∨ c = 63
  · rw [if_pos q1] at ht ⊢
    cases hst : (bmp s).star with
    | false => rw [hst, if_neg (by decide)] at ht; cases ht
    | true =>
      rw [hst, if_pos rfl] at ht
      rw [if_pos rfl]
      have hne := h.star hst
      obtain ⟨cu, p, hc⟩ : ∃ cu p, s.tp.2 = cu ++ [p] := ⟨_, _, (List.dropLast_concat_getLast hne).symm⟩
      have hl : (bmp s).tp.2.getLast? = some p := by show s.tp.2.getLast? = _; rw [hc]; simp
      have hd : (bmp s).tp.2.dropLast = cu := by show s.tp.2.dropLast = _; rw [hc]; simp
      obtain ⟨hp, hcut⟩ := h1.1.cut hc
      rw [hl, hd]
      refine ⟨n, Nat.le_succ n, ⟨h.mks, ?_, fun f hf => ?_, fun _ z => ?_, ?_, ?_⟩, rfl⟩
      · show FolOk n (if c = 63 then s.fol else _)
        split
        · exact h.fol
        · exact FolOk.jn hp.1 h.fol
      · rcases List.mem_cons.mp hf with rfl | hf
        · refine ⟨hcut.push (p := ⟨_, p.fst, p.lst⟩) hp, ?_, ?_⟩
          · show s.tp.1.length ≤ s.signs + 1
            omega
          · show (cu ++ [_]).length ≤ s.signs + 1
            have := congrArg List.length hc
            simp at this ⊢
            omega
        · exact hu1 f hf
      · have z : cu ++ [_] = [] := z
        simp at z
      · show n ≤ s.signs + 1
        omega
      · show s.up.length ≤ s.signs + 1
        omega
  · rw [if_neg q1] at ht ⊢
    by_cases q2 : c = 40
    · rw [if_pos q2]
      refine ⟨n, Nat.le_succ n, ⟨h.mks, h.fol, fun f hf => ?_, fun z => (by cases z), ?_, ?_⟩, rfl⟩
      · rcases List.mem_cons.mp hf with rfl | hf
        · exact ⟨FrOk.nil n, Nat.zero_le _, Nat.zero_le _⟩
        · have := hT f hf
          exact ⟨this.1, by show _ ≤ s.signs + 1; omega, by show _ ≤ s.signs + 1; omega⟩
      · show n ≤ s.signs + 1
        omega
      · show s.up.length + 1 ≤ s.signs + 1
        omega
    · rw [if_neg q2] at ht ⊢
      by_cases q3 : c = 41
      · rw [if_pos q3] at ht ⊢
        have hub : (bmp s).up = s.up := rfl
        cases hu : s.up with
        | nil => rw [hub, hu] at ht; cases ht
        | cons f up =>
          rw [hub, hu]
          have hf2 := hu1 f (by rw [hu]; simp)
          have hf3 := hT f (by rw [hu]; simp)
          have w : WOk n (choF s.fol s.tp) := by
            have := h1.1
            unfold choF FrOk at *
            cases e : s.tp.1 ++ [s.tp.2] with
            | nil => simp at e
            | cons b bs =>
              rw [e] at this
              exact WOk.chos (rowM_ok h.fol (this b (List.mem_cons_self ..))) fun c hc => this c (List.mem_cons_of_mem _ hc)
          refine ⟨n, Nat.le_succ n, ⟨h.mks, w.1, fun g hg => ?_, fun _ z => ?_, ?_, ?_⟩, rfl⟩
          · rcases List.mem_cons.mp hg with rfl | hg
            · refine ⟨hf2.1.push w.2, hf2.2.1, ?_⟩
              show (f.2 ++ [_]).length ≤ s.signs + 1
              simp
              omega
            · exact hu1 g (by rw [hu]; exact List.mem_cons_of_mem _ hg)
          · have z : f.2 ++ [_] = [] := z
            simp at z
          · show n ≤ s.signs + 1
            omega
          · show up.length ≤ s.signs + 1
            have := congrArg List.length hu
            simp at this
            omega
      · rw [if_neg q3] at ht ⊢
        by_cases q4 : c = 124
        · rw [if_pos q4]
          refine ⟨n, Nat.le_succ n, ⟨h.mks, h.fol, fun f hf => ?_, fun z => (by cases z), ?_, ?_⟩, rfl⟩
          · rcases List.mem_cons.mp hf with rfl | hf
            · refine ⟨h1.1.bar, ?_, Nat.zero_le _⟩
              show (s.tp.1 ++ [_]).length ≤ s.signs + 1
              simp
              omega
            · exact hu1 f hf
          · show n ≤ s.signs + 1
            omega
          · show s.up.length ≤ s.signs + 1
            omega
        · rw [if_neg q4] at ht ⊢
          by_cases q5 : c = 46 ∨ c ∈ al
          · rw [if_pos q5]
            refine ⟨n + 1, Nat.le_refl _, ⟨?_, h.fol.mono1, fun f hf => ?_, fun _ z => ?_, ?_, ?_⟩, rfl⟩
            · show (s.marks ++ [_]).length = n + 1
              simp [h.mks]
            · rcases List.mem_cons.mp hf with rfl | hf
              · refine ⟨(h1.1.mono (Nat.le_succ n)).push (p := ⟨false, [s.marks.length + 1], [s.marks.length + 1]⟩) ?_, ?_, ?_⟩
                · have : PlOk (n + 1) [s.marks.length + 1] := ⟨fun x hx => by
                    rw [List.mem_singleton.mp hx, h.mks]
                    omega, by simp⟩
                  exact ⟨this, this⟩
                · show s.tp.1.length ≤ s.signs + 1
                  omega
                · show (s.tp.2 ++ [_]).length ≤ s.signs + 1
                  simp
                  omega
              · exact ⟨(hu1 f hf).1.mono (Nat.le_succ n), (hu1 f hf).2⟩
            · have z : s.tp.2 ++ [_] = [] := z
              simp at z
            · show n + 1 ≤ s.signs + 1
              omega
            · show s.up.length ≤ s.signs + 1
              omega
          · rw [if_neg q5] at ht; cases ht
def sTL : List Nat := [116, 111, 111, 32, 108, 111, 110, 103]
def sTS : List Nat := [116, 111, 111, 32, 115, 104, 111, 114, 116]
def sUX : List Nat := [117, 110, 101, 120, 112, 101, 99, 116, 101, 100]
def dFt : Option (List Nat) → D
  | none => .non
  | some t => .str t
def scM (al stops : List Nat) : List Nat → Nat → ScM → ScM × Nat × Option (List Nat)
  | [], k, s => (s, k, if s.up.length = 0 then none else some sTS)
  | c :: r, k, s => if s.up.length = 0 ∧ c ∈ stops then (s, k, none) else if s.signs = 12 then (s, k, some sTL) else
      if (tkM al (bmp s) c).1 = true then scM al stops r (k + 1) (tkM al (bmp s) c).2 else ((tkM al (bmp s) c).2, k, some sUX)
theorem scM_cons (al stops : List Nat) (c : Nat) (r : List Nat) (k : Nat) (s : ScM) : scM al stops (c :: r) k s = if s.up.length = 0 ∧ c ∈ stops then (s, k, none) else if s.signs = 12 then (s, k, some sTL) else
      if (tkM al (bmp s) c).1 = true then scM al stops r (k + 1) (tkM al (bmp s) c).2 else ((tkM al (bmp s) c).2, k, some sUX) := by rfl
theorem scM_nil (al stops : List Nat) (k : Nat) (s : ScM) : scM al stops [] k s = (s, k, if s.up.length = 0 then none else some sTS) := by rfl
def sc0 : ScM := ⟨[], [], [], ([], []), 0, false⟩
theorem sc0_ok : ScOk 0 sc0 := ⟨rfl, ⟨rfl, fun _ h => (by cases h)⟩, fun f hf => by
  rw [List.mem_singleton.mp hf]
  exact ⟨FrOk.nil 0, Nat.le_refl _, Nat.le_refl _⟩, fun h => (by cases h), Nat.le_refl _, Nat.le_refl _⟩
theorem init_sc (al : List Nat) : sem_Scanner_init [.ins "Scanner" [], .fz (.str al)] = .ok (.fz .non) [some (oSc al sc0)] := by rfl
theorem tup_ins (c : String) (fs : List (String × O)) (r : List O) : tupO (.ins c fs :: r) = .tup (.ins c fs :: r) := by rfl
def scO (al : List Nat) (R : ScM × Nat × Option (List Nat)) : O := .tup [oSc al R.1, .fz (dN R.2.1), .fz (dFt R.2.2)]
theorem scM_ok {al stops : List Nat} : ∀ {t : List Nat} {k n : Nat} {s : ScM}, ScOk n s → s.signs ≤ 12 → (scM al stops t k s).2.2 = none → ∃ m, m ≤ 12 ∧ ScOk m (scM al stops t k s).1 ∧ (scM al stops t k s).1.up = []
  | [], k, n, s, h, hs, he => by
    unfold scM at he ⊢
    by_cases hu : s.up.length = 0
    · exact ⟨n, Nat.le_trans h.sg.1 hs, h, List.eq_nil_of_length_eq_zero hu⟩
    · simp only at he
      rw [if_neg hu] at he; cases he
  | c :: r, k, n, s, h, hs, he => by
    unfold scM at he ⊢
    by_cases h1 : s.up.length = 0 ∧ c ∈ stops
    · rw [if_pos h1]
      exact ⟨n, Nat.le_trans h.sg.1 hs, h, List.eq_nil_of_length_eq_zero h1.1⟩
    · rw [if_neg h1] at he ⊢
      by_cases h2 : s.signs = 12
      · rw [if_pos h2] at he; cases he
      · rw [if_neg h2] at he ⊢
        by_cases h3 : (tkM al (bmp s) c).1 = true
        · rw [if_pos h3] at he ⊢
          obtain ⟨m, _, hm, hg⟩ := take_inv al h c h3
          exact scM_ok hm (by omega) he
        · rw [if_neg h3] at he; cases he
theorem scanned_ok (al text stops : List Nat) (start : Nat) (hst : start ≤ text.length) (hal : al.length ≤ line) (ht : text.length ≤ 10000) :
    sem_scanned [.fz (.str al), .fz (.str text), .fz (dN start), .fz (.str stops)] = .ok (scO al (scM al stops (text.drop start) start sc0)) [] := by
  unfold sem_scanned body_scanned
  have hl : text.length ≤ line := by unfold line; omega
  have ei := init_sc al
  simp_arith [ei]
  generalize hw : whileL _ _ _ _ = r
  have main := while_orH (Hit := fun v => v = scO al (scM al stops (text.drop start) start sc0)) hw (fun (p : ScM × Nat) => [some (.fz (.str al)), some (.fz (.str text)), some (.fz (dN start)), some (.fz (.str stops)), some (oSc al p.1), some (.fz (dN p.2))])
    (fun p => p.2 ≤ text.length ∧ p.1.signs ≤ 12 ∧ (∃ n, ScOk n p.1) ∧ scM al stops (text.drop p.2) p.2 p.1 = scM al stops (text.drop start) start sc0) (fun p => text.length - p.2) (sc0, start) rfl ⟨hst, Nat.zero_le _, ⟨0, sc0_ok⟩, rfl⟩ (by simp only; omega) (by
    rintro ⟨s, k⟩ ⟨h1, h2, ⟨n, h3⟩, h4⟩
    simp only at h1 h2 h3 h4
    by_cases hk : k < text.length
    · have hd : text.drop k = text[k] :: text.drop (k + 1) := List.drop_eq_getElem_cons hk
      have hg : text.getD k 0 = text[k] := by simp [List.getD_eq_getElem?_getD, List.getElem?_eq_getElem hk]
      have hi := item_str hk hl
      rw [hg] at hi
      generalize text[k] = c at *
      rw [hd, scM_cons] at h4
      right
      refine ⟨by simp_arith [len_str hl, decide_eq_true hk], ?_⟩
      have hcl := is_closed_ok al s
      by_cases q1 : s.up.length = 0 ∧ c ∈ stops
      · rw [if_pos q1] at h4
        right
        refine ⟨_, rfl, [some (.fz (.str al)), some (.fz (.str text)), some (.fz (dN start)), some (.fz (.str stops)), none, some (.fz (dN k))], ?_⟩
        rw [← h4]
        have hc : stops.contains c = true := by simpa using q1.2
        rw [decide_eq_true q1.1] at hcl
        simp_arith [x_eMeth, hcl, hi, hc, x_eMv, tup_ins]
        rfl
      · have hcond : ∀ (ρ : Env), ρ = [some (.fz (.str al)), some (.fz (.str text)), some (.fz (dN start)), some (.fz (.str stops)), some (oSc al s), some (.fz (dN k))] → (tAnd (tE (eMeth "Scanner" sem_Scanner_is_closed 4 [])) (tE (e2P opIn (eP (pIx (pV 1) (pV 5))) (pV 3)))) ρ = .ok false ρ := by
          rintro ρ rfl
          by_cases q2 : s.up.length = 0
          · rw [decide_eq_true q2] at hcl
            have hc : stops.contains c = false := by
              have : ¬ c ∈ stops := fun z => q1 ⟨q2, z⟩
              simpa using this
            simp_arith [x_eMeth, hcl, hi, hc]
          · rw [decide_eq_false q2] at hcl
            simp_arith [x_eMeth, hcl]
        have hcond := hcond _ rfl
        rw [if_neg q1] at h4
        by_cases q2 : s.signs = 12
        · rw [if_pos q2] at h4
          right
          refine ⟨_, rfl, [some (.fz (.str al)), some (.fz (.str text)), some (.fz (dN start)), some (.fz (.str stops)), none, some (.fz (dN k))], ?_⟩
          rw [← h4]
          simp only [x_blk2, x_sIf, hcond]
          simp_arith [sf_signs, decide_eq_true q2, x_eMv, tup_ins]
          rfl
        · rw [if_neg q2] at h4
          have et := take_sem (Nat.le_trans h3.sg.1 h2) al h3 h2 hal c
          by_cases q3 : (tkM al (bmp s) c).1 = true
          · rw [if_pos q3] at h4
            left
            obtain ⟨m, _, hm, hg2⟩ := take_inv al h3 c q3
            refine ⟨((tkM al (bmp s) c).2, k + 1), ?_, ⟨hk, Nat.le_trans (Nat.le_of_eq hg2) (by have : s.signs ≠ 12 := q2; omega), ⟨m, hm⟩, h4⟩, by simp only; omega⟩
            rw [q3] at et
            simp only [x_blk2, x_sIf, hcond]
            simp_arith [sf_signs, decide_eq_false q2, x_eMeth, hi, et]
          · rw [if_neg q3] at h4
            right
            refine ⟨_, rfl, [some (.fz (.str al)), some (.fz (.str text)), some (.fz (dN start)), some (.fz (.str stops)), none, some (.fz (dN k))], ?_⟩
            rw [← h4]
            have q3' : (tkM al (bmp s) c).1 = false := by simpa using q3
            rw [q3'] at et
            simp only [x_blk2, x_sIf, hcond]
            simp_arith [sf_signs, decide_eq_false q2, x_eMeth, hi, et, x_eMv, tup_ins]
            rfl
    · left
      simp_arith [len_str hl, decide_eq_false hk])
  rcases main with ⟨⟨s, k⟩, rfl, ⟨h1, h2, ⟨n, h3⟩, h4⟩, hc⟩ | ⟨v, rfl, ρ', rfl⟩
  · simp only at h1 h2 h4 hc
    have hk : k = text.length := by
      by_cases hk : k < text.length
      · exfalso
        revert hc
        simp_arith [len_str hl, decide_eq_true hk]
        intro z
        cases z
      · omega
    subst hk
    rw [List.drop_length, scM_nil] at h4
    rw [← h4]
    have hcl := is_closed_ok al s
    by_cases q2 : s.up.length = 0
    · rw [decide_eq_true q2] at hcl
      rw [if_pos q2]
      simp_arith [x_eMeth, hcl, x_eMv, tup_ins]
      rfl
    · rw [decide_eq_false q2] at hcl
      rw [if_neg q2]
      simp_arith [x_eMeth, hcl, x_eMv, tup_ins]
      rfl
  · simp_arith []
structure NetM where
  marks : List (Option Nat)
  fol : List (List Nat)
  ends : List Nat
def dMks (m : List (Option Nat)) : D := .lst (.non :: m.map dMk)
def netO (N : NetM) : O := .ins "Network" [("marks", .fz (dMks N.marks)), ("follow", .fz (dNss N.fol)), ("ends", .fz (dNs N.ends))]
def dNet (N : NetM) : D := .ins "Network" [("marks", dMks N.marks), ("follow", dNss N.fol), ("ends", dNs N.ends)]
def netM (s : ScM) : NetM := ⟨s.marks, (choF s.fol s.tp).2.fst :: (choF s.fol s.tp).1, (if (choF s.fol s.tp).2.nul = true then [0] else []) ++ (choF s.fol s.tp).2.lst⟩
def sgX (al : List Nat) (s : ScM) (fr fo mk : O) : O := .ins "Scanner" [("alphabet", .fz (.str al)), ("marks", mk), ("follow", fo), ("frames", fr), ("signs", .fz (dN s.signs)), ("starred", .fz (.bl s.star))]
theorem rd_frs (al : List Nat) (s : ScM) (rest : Env) (h : s.up = []) : eRdP 0 (ptIx (ptFld ptV "frames") (pC (dN 0))) (some (oSc al s) :: rest) = .ok (.fz (oFr s.tp).fr) (some (oSg al s (.lst [.fz (oFr s.tp).fr])) :: rest) := by
  obtain ⟨m, F, up, tp, sg, st⟩ := s
  cases h
  rfl
theorem rd_fol (al : List Nat) (s : ScM) (fr : O) (rest : Env) : eRdP 0 (ptFld ptV "follow") (some (oSg al s fr) :: rest) = .ok (.fz (oFol s.fol).fr) (some (sgX al s fr (.fz (oFol s.fol).fr) (oMks s.marks)) :: rest) := by rfl
theorem rd_mks (al : List Nat) (s : ScM) (fr fo mk : O) (rest : Env) : eRdP 0 (ptFld ptV "marks") (some (sgX al s fr fo mk) :: rest) = .ok (.fz mk.fr) (some (sgX al s fr fo (.fz mk.fr)) :: rest) := by rfl
theorem fr_oFol (F : List (List Nat)) : (oFol F).fr = .lst (.lst [] :: F.map dNs) := by
  show D.lst (frs (.lst [] :: F.map fun l => .fz (dNs l))) = _
  rw [frs_cons, y_frsfz]; rfl
theorem fr_oMks (m : List (Option Nat)) : (oMks m).fr = dMks m := by
  show D.lst (frs (.fz .non :: m.map fun l => .fz (dMk l))) = _
  rw [frs_cons, y_frsfz]; rfl
theorem init_net (a b c : D) : sem_Network_init [.ins "Network" [], .fz a, .fz b, .fz c] = .ok (.fz .non) [some (.ins "Network" [("marks", .fz a), ("follow", .fz b), ("ends", .fz c)])] := by rfl
theorem network_ok {n : Nat} (hn : n ≤ 12) (al : List Nat) {s : ScM} (h : ScOk n s) (hu : s.up = []) : ∃ o', sem_Scanner_network [oSc al s] = .ok (netO (netM s)) [some o'] := by
  unfold sem_Scanner_network body_Scanner_network
  have e1 := rd_frs al s [none, none, none, none] hu
  obtain ⟨e2, w⟩ := choF_sem hn al s (.lst [.fz (oFr s.tp).fr]) h.fol (h.fr _ (List.mem_cons_self ..)).1
  have hw : (choF s.fol s.tp).1.length = n := w.1.1
  have hp : (choF s.fol s.tp).2.lst.length ≤ 13 := w.2.2.2
  unfold netM
  generalize choF s.fol s.tp = W at *
  obtain ⟨F, ⟨pn, pf, pl⟩⟩ := W
  simp only at e2 hw hp ⊢
  have e3 := rd_fol al { s with fol := F } (.lst [.fz (oFr s.tp).fr]) [some (.fz (dPt ⟨pn, pf, pl⟩)), none, none, none]
  rw [fr_oFr] at e1 e2 e3
  simp_arith [e1, x_eMeth, e2, pf_fst]
  generalize hc : eComp _ _ _ _ _ _ = r
  have hc2 := comp_of2 hc (l := F) dNs (fun l => .lst ((l.map dN).map .fz)) (ρ0 := some (sgX al { s with fol := F } (.lst [.fz (oFr s.tp).fr]) (.fz (oFol F).fr) (oMks s.marks)) :: [some (.fz (dPt ⟨pn, pf, pl⟩)), none, none, none]) (by
    rw [fr_oFr]
    simp_arith [e3, fr_oFol, slice_tail]) rfl (by unfold line; omega) (by
    intro l hl
    refine ⟨some (sgX al { s with fol := F } (.lst [.fz (oFr s.tp).fr]) (.fz (oFol F).fr) (oMks s.marks)) :: [some (.fz (dPt ⟨pn, pf, pl⟩)), none, none, some (.fz (dNs l))], ?_, ?_, ?_⟩
    · rfl
    · simp_arith []
    · rfl)
  subst hc2
  have e4 : ∀ (fr fo : O) (rest : Env), eRdP 0 (ptFld ptV "marks") (some (sgX al { s with fol := F } fr fo (oMks s.marks)) :: rest) = .ok (.fz (dMks s.marks)) (some (sgX al { s with fol := F } fr fo (.fz (dMks s.marks))) :: rest) := fun fr fo rest => by
    rw [rd_mks, fr_oMks]
  have e5 : frs (F.map fun l => O.lst ((l.map dN).map .fz)) = F.map dNs := by
    rw [frs_map]
    exact List.map_congr_left fun l _ => by rw [fr_lst, frs_mapfz]
  have e6 : opListS (dMks s.marks) = some (.lst ((D.non :: s.marks.map dMk).map .fz)) := by rfl
  have z1 : (1 : Nat) + F.length ≤ line := by unfold line; omega
  have z2 : (1 : Nat) + pl.length ≤ line := by unfold line; omega
  have z3 : (0 : Nat) + pl.length ≤ line := by unfold line; omega
  have e7 := init_net (dMks s.marks) (.lst (dNs pf :: F.map dNs)) (.lst (dN 0 :: pl.map dN))
  have e8 := init_net (dMks s.marks) (.lst (dNs pf :: F.map dNs)) (.lst (pl.map dN))
  have e9 : D.lst (D.non :: s.marks.map dMk) = dMks s.marks := rfl
  cases pn
  · refine ⟨sgX al { s with fol := F } (.lst [.fz (oFr s.tp).fr]) (.fz (oFol F).fr) (.fz (dMks s.marks)), ?_⟩
    simp_arith [e5, pf_nul, pf_lst, z1, z3, e4, e6, e9, e8]
    rfl
  · refine ⟨sgX al { s with fol := F } (.lst [.fz (oFr s.tp).fr]) (.fz (oFol F).fr) (.fz (dMks s.marks)), ?_⟩
    simp_arith [e5, pf_nul, pf_lst, z1, z2, e4, e6, e9, e7]
    rfl
def mkA (M : List (Option Nat)) (p : Nat) : Option Nat := M.getD (p - 1) none
def foA (F : List (List Nat)) (p : Nat) : List Nat := F.getD (p - 1) []
def fit (m : Option Nat) (k : Nat) : Prop := m = none ∨ m = some k
abbrev Lng := List Nat → Prop
/-- from a place to a last one -/
def Rd (M : List (Option Nat)) (F : List (List Nat)) (L : List Nat) : Nat → List Nat → Prop
  | _, [] => False
  | p, k :: r => fit (mkA M p) k ∧ ((r = [] ∧ p ∈ L) ∨ ∃ q, q ∈ foA F p ∧ Rd M F L q r)
def NL (M : List (Option Nat)) (F : List (List Nat)) (P : PtM) : Lng := fun w => ∃ p, p ∈ P.fst ∧ Rd M F P.lst p w
def PL (M : List (Option Nat)) (F : List (List Nat)) (P : PtM) : Lng := fun w => (w = [] ∧ P.nul = true) ∨ NL M F P w
def Btw (a b p : Nat) : Prop := a < p ∧ p ≤ b
/-- a part whose places lie in between, with nothing leading out -/
structure Cl (a b : Nat) (F : List (List Nat)) (P : PtM) : Prop where
  le : a ≤ b
  fst : ∀ p ∈ P.fst, Btw a b p
  lst : ∀ p ∈ P.lst, Btw a b p
  fo : ∀ p, Btw a b p → ∀ q ∈ foA F p, Btw a b q
/-- the same within -/
def SameIn (a b : Nat) (M M' : List (Option Nat)) (F F' : List (List Nat)) : Prop := ∀ p, Btw a b p → mkA M' p = mkA M p ∧ foA F' p = foA F p
theorem Rd.ne {M : List (Option Nat)} {F : List (List Nat)} {L : List Nat} {p : Nat} {w : List Nat} (h : Rd M F L p w) : w ≠ [] := by
  intro e; rw [e] at h; exact h
theorem Rd.same {a b : Nat} {M M' : List (Option Nat)} {F F' : List (List Nat)} {L L' : List Nat} (s : SameIn a b M M' F F') (hL : ∀ p, Btw a b p → (p ∈ L' ↔ p ∈ L)) (hc : ∀ p, Btw a b p → ∀ q ∈ foA F p, Btw a b q) :
    ∀ (w : List Nat) (p : Nat), Btw a b p → (Rd M' F' L' p w ↔ Rd M F L p w)
  | [], _, _ => Iff.rfl
  | k :: r, p, hp => by
    unfold Rd
    rw [(s p hp).1, (s p hp).2, hL p hp]
    refine and_congr Iff.rfl (or_congr Iff.rfl ?_)
    constructor
    · rintro ⟨q, hq, h⟩
      exact ⟨q, hq, (Rd.same s hL hc r q (hc p hp q hq)).mp h⟩
    · rintro ⟨q, hq, h⟩
      exact ⟨q, hq, (Rd.same s hL hc r q (hc p hp q hq)).mpr h⟩
theorem Cl.same {a b : Nat} {M M' : List (Option Nat)} {F F' : List (List Nat)} {P : PtM} (h : Cl a b F P) (s : SameIn a b M M' F F') : Cl a b F' P := ⟨h.le, h.fst, h.lst, fun p hp q hq => h.fo p hp q (by rw [← (s p hp).2]; exact hq)⟩
theorem NL.same {a b : Nat} {M M' : List (Option Nat)} {F F' : List (List Nat)} {P : PtM} (h : Cl a b F P) (s : SameIn a b M M' F F') (w : List Nat) : NL M' F' P w ↔ NL M F P w := by
  constructor
  · rintro ⟨p, hp, hr⟩
    exact ⟨p, hp, (Rd.same s (fun _ _ => Iff.rfl) h.fo w p (h.fst p hp)).mp hr⟩
  · rintro ⟨p, hp, hr⟩
    exact ⟨p, hp, (Rd.same s (fun _ _ => Iff.rfl) h.fo w p (h.fst p hp)).mpr hr⟩
theorem PL.same {a b : Nat} {M M' : List (Option Nat)} {F F' : List (List Nat)} {P : PtM} (h : Cl a b F P) (s : SameIn a b M M' F F') (w : List Nat) : PL M' F' P w ↔ PL M F P w := or_congr Iff.rfl (NL.same h s w)
theorem fo_set (F : List (List Nat)) (p q : Nat) (l : List Nat) (hp : 1 ≤ p) (hp2 : p ≤ F.length) (hq : 1 ≤ q) : foA (F.set (p - 1) l) q = if q = p then l else foA F q := by
  unfold foA
  rw [List.getD_eq_getElem?_getD, List.getElem?_set, List.getD_eq_getElem?_getD]
  by_cases h : q = p
  · subst h
    rw [if_pos rfl, if_pos (by omega), if_pos rfl]; rfl
  · rw [if_neg (by omega), if_neg h]
theorem fo_jn {n : Nat} {f : List Nat} (hf : PlOk n f) (hn : n ≤ 12) : ∀ {l : List Nat} {F : List (List Nat)}, FolOk n F → PlOk n l → ∀ p, 1 ≤ p → ∀ x, x ∈ foA (jnM F l f) p ↔ x ∈ foA F p ∨ (p ∈ l ∧ x ∈ f)
  | [], F, _, _, p, _, x => by
    show x ∈ foA F p ↔ _
    simp
  | a :: l, F, hF, hl, p, hp, x => by
    have ha := hl.1 a (List.mem_cons_self ..)
    have hl' : PlOk n l := ⟨fun y hy => hl.1 y (List.mem_cons_of_mem _ hy), by have := hl.2; simp at this; omega⟩
    have hF' := hF.set (a - 1) ((hF.get (a - 1)).mrg hf)
    have ih := fo_jn hf hn hF' hl' p hp x
    show x ∈ foA (jnM (F.set (a - 1) (mrg (F.getD (a - 1) []) f)) l f) p ↔ _
    rw [ih, fo_set F a p _ ha.1 (by rw [hF.1]; exact ha.2) hp]
    by_cases e : p = a
    · subst e
      rw [if_pos rfl, mem_mrg]
      have h1 : x ∈ F.getD (p - 1) [] → x < 13 := fun h => by have := ((hF.get (p - 1)).1 x h).2; omega
      have h2 : x ∈ f → x < 13 := fun h => by have := (hf.1 x h).2; omega
      have e : foA F p = F.getD (p - 1) [] := rfl
      rw [e]
      constructor
      · rintro (⟨_, h | h⟩ | ⟨_, h⟩)
        · exact .inl h
        · exact .inr ⟨List.mem_cons_self .., h⟩
        · exact .inr ⟨List.mem_cons_self .., h⟩
      · rintro (h | ⟨_, h⟩)
        · exact .inl ⟨h1 h, .inl h⟩
        · exact .inl ⟨h2 h, .inr h⟩
    · rw [if_neg e]
      constructor
      · rintro (h | ⟨h, h'⟩)
        · exact .inl h
        · exact .inr ⟨List.mem_cons_of_mem _ h, h'⟩
      · rintro (h | ⟨h, h'⟩)
        · exact .inl h
        · rcases List.mem_cons.mp h with h | h
          · exact absurd h e
          · exact .inr ⟨h, h'⟩
theorem jnM_out {n : Nat} {f : List Nat} : ∀ {l : List Nat} {F : List (List Nat)}, FolOk n F → PlOk n l → ∀ {p}, 1 ≤ p → p ∉ l → foA (jnM F l f) p = foA F p
  | [], _, _, _, _, _, _ => rfl
  | a :: l, F, hF, hl, p, hp, h => by
    have ha := hl.1 a (List.mem_cons_self ..)
    have hl' : PlOk n l := ⟨fun y hy => hl.1 y (List.mem_cons_of_mem _ hy), by have := hl.2; simp at this; omega⟩
    show foA (jnM (F.set (a - 1) (mrg (F.getD (a - 1) []) f)) l f) p = _
    have hlen : (F.set (a - 1) (mrg (F.getD (a - 1) []) f)).length = n := by rw [List.length_set]; exact hF.1
    have key : ∀ (l : List Nat) (G : List (List Nat)), G.length = n → (∀ x ∈ l, 1 ≤ x ∧ x ≤ n) → p ∉ l → foA (jnM G l f) p = foA G p := by
      intro l
      induction l with
      | nil => intro G _ _ _; rfl
      | cons b l ih =>
        intro G hG hb hpl
        show foA (jnM (G.set (b - 1) (mrg (G.getD (b - 1) []) f)) l f) p = _
        rw [ih _ (by rw [List.length_set]; exact hG) (fun x hx => hb x (List.mem_cons_of_mem _ hx)) (fun z => hpl (List.mem_cons_of_mem _ z)), fo_set G b p _ (hb b (List.mem_cons_self ..)).1 (by rw [hG]; exact (hb b (List.mem_cons_self ..)).2) hp, if_neg (fun z => hpl (by rw [z]; exact List.mem_cons_self ..))]
    rw [key l _ hlen hl'.1 (fun z => h (List.mem_cons_of_mem _ z)), fo_set F a p _ ha.1 (by rw [hF.1]; exact ha.2) hp, if_neg (fun z => h (by rw [z]; exact List.mem_cons_self ..))]
theorem Btw.out {a b c p : Nat} (h : Btw a b p) (h' : Btw b c p) : False := by unfold Btw at *; omega
theorem Btw.l {a b c p : Nat} (h : Btw a b p) (hc : b ≤ c) : Btw a c p := ⟨h.1, Nat.le_trans h.2 hc⟩
theorem Btw.r {a b c p : Nat} (h : Btw b c p) (ha : a ≤ b) : Btw a c p := ⟨Nat.lt_of_le_of_lt ha h.1, h.2⟩
theorem Btw.cut {a b c p : Nat} (h : Btw a c p) : Btw a b p ∨ Btw b c p := by unfold Btw at *; omega
/-- a row: the one, then the other -/
theorem row_lang {a b c n : Nat} {M : List (Option Nat)} {F : List (List Nat)} {W P : PtM} (hn : n ≤ 12) (hF : FolOk n F) (hW : PtOk n W) (hP : PtOk n P) (cW : Cl a b F W) (cP : Cl b c F P) :
    Cl a c (rowS (F, W) P).1 (rowS (F, W) P).2 ∧ (∀ w, PL M (rowS (F, W) P).1 (rowS (F, W) P).2 w ↔ ∃ u v, w = u ++ v ∧ PL M F W u ∧ PL M F P v) ∧ (∀ p, 1 ≤ p → ¬ Btw a b p → foA (rowS (F, W) P).1 p = foA F p) := by
  have ho : ∀ p, 1 ≤ p → ¬ Btw a b p → foA (rowS (F, W) P).1 p = foA F p := fun p hp hb => jnM_out hF hW.2 hp fun h => hb (cW.lst p h)
  have hj := fo_jn hP.1 hn hF hW.2
  have h1 : ∀ {p}, Btw a c p → 1 ≤ p := fun h => by have := h.1; omega
  have fst : ∀ x, x ∈ (rowS (F, W) P).2.fst ↔ x ∈ W.fst ∨ (W.nul = true ∧ x ∈ P.fst) := fun x => by
    show x ∈ (if W.nul = true then mrg W.fst P.fst else W.fst) ↔ _
    cases W.nul
    · simp
    · rw [if_pos rfl, mem_mrg]
      constructor
      · rintro ⟨_, h | h⟩
        · exact .inl h
        · exact .inr ⟨rfl, h⟩
      · rintro (h | ⟨_, h⟩)
        · exact ⟨by have := (hW.1.1 x h).2; omega, .inl h⟩
        · exact ⟨by have := (hP.1.1 x h).2; omega, .inr h⟩
  have lst : ∀ x, x ∈ (rowS (F, W) P).2.lst ↔ x ∈ P.lst ∨ (P.nul = true ∧ x ∈ W.lst) := fun x => by
    show x ∈ (if P.nul = true then mrg W.lst P.lst else P.lst) ↔ _
    cases P.nul
    · simp
    · rw [if_pos rfl, mem_mrg]
      constructor
      · rintro ⟨_, h | h⟩
        · exact .inr ⟨rfl, h⟩
        · exact .inl h
      · rintro (h | ⟨_, h⟩)
        · exact ⟨by have := (hP.2.1 x h).2; omega, .inr h⟩
        · exact ⟨by have := (hW.2.1 x h).2; omega, .inl h⟩
  have hfo : ∀ p, 1 ≤ p → ∀ x, x ∈ foA (rowS (F, W) P).1 p ↔ x ∈ foA F p ∨ (p ∈ W.lst ∧ x ∈ P.fst) := hj
  have nulE : (rowS (F, W) P).2.nul = (W.nul && P.nul) := rfl
  generalize rowS (F, W) P = R at *
  obtain ⟨F', W'⟩ := R
  simp only at *
  -- within the second
  have inR : ∀ (w : List Nat) (q : Nat), Btw b c q → (Rd M F' W'.lst q w ↔ Rd M F P.lst q w) := by
    intro w
    induction w with
    | nil => intro q _; exact Iff.rfl
    | cons k r ih =>
      intro q hq
      have hq1 := h1 (hq.r cW.le)
      unfold Rd
      refine and_congr Iff.rfl (or_congr (and_congr Iff.rfl ?_) ?_)
      · rw [lst]
        constructor
        · rintro (h | ⟨_, h⟩)
          · exact h
          · exact ((cW.lst q h).out hq).elim
        · exact .inl
      · constructor
        · rintro ⟨x, hx, h⟩
          rcases (hfo q hq1 x).mp hx with hx | ⟨hx, _⟩
          · exact ⟨x, hx, (ih x (cP.fo q hq x hx)).mp h⟩
          · exact ((cW.lst q hx).out hq).elim
        · rintro ⟨x, hx, h⟩
          exact ⟨x, (hfo q hq1 x).mpr (.inl hx), (ih x (cP.fo q hq x hx)).mpr h⟩
  have inL : ∀ (w : List Nat) (p : Nat), Btw a b p → (Rd M F' W'.lst p w ↔ ∃ u v, w = u ++ v ∧ Rd M F W.lst p u ∧ PL M F P v) := by
    intro w
    induction w with
    | nil =>
      intro p _
      constructor
      · intro h; exact h.elim
      · rintro ⟨u, v, e, h, _⟩
        have : u = [] := (List.append_eq_nil_iff.mp e.symm).1
        rw [this] at h; exact h.elim
    | cons k r ih =>
      intro p hp
      have hp1 := h1 (hp.l cP.le)
      constructor
      · rintro ⟨hk, h | ⟨x, hx, h⟩⟩
        · obtain ⟨rfl, h⟩ := h
          rcases (lst p).mp h with h | ⟨hn, h⟩
          · exact (hp.out (cP.lst p h)).elim
          · exact ⟨[k], [], rfl, ⟨hk, .inl ⟨rfl, h⟩⟩, .inl ⟨rfl, hn⟩⟩
        · rcases (hfo p hp1 x).mp hx with hx | ⟨hx, hx2⟩
          · obtain ⟨u, v, e, hu, hv⟩ := (ih x (cW.fo p hp x hx)).mp h
            exact ⟨k :: u, v, by rw [e]; rfl, ⟨hk, .inr ⟨x, hx, hu⟩⟩, hv⟩
          · exact ⟨[k], r, rfl, ⟨hk, .inl ⟨rfl, hx⟩⟩, .inr ⟨x, hx2, (inR r x (cP.fst x hx2)).mp h⟩⟩
      · rintro ⟨u, v, e, hu, hv⟩
        cases u with
        | nil => exact hu.elim
        | cons k' u =>
          obtain ⟨rfl, rfl⟩ := List.cons.inj e
          obtain ⟨hk, ⟨rfl, hl⟩ | ⟨x, hx, hx2⟩⟩ := hu
          · refine ⟨hk, ?_⟩
            rcases hv with ⟨rfl, hn⟩ | ⟨q, hq, hv⟩
            · exact .inl ⟨rfl, (lst p).mpr (.inr ⟨hn, hl⟩)⟩
            · exact .inr ⟨q, (hfo p hp1 q).mpr (.inr ⟨hl, hq⟩), (inR v q (cP.fst q hq)).mpr hv⟩
          · exact ⟨hk, .inr ⟨x, (hfo p hp1 x).mpr (.inl hx), (ih x (cW.fo p hp x hx)).mpr ⟨u, v, rfl, hx2, hv⟩⟩⟩
  refine ⟨⟨Nat.le_trans cW.le cP.le, fun p hp => ?_, fun p hp => ?_, fun p hp q hq => ?_⟩, fun w => ?_, fun p hp hb => ?_⟩
  · rcases (fst p).mp hp with h | ⟨_, h⟩
    · exact (cW.fst p h).l cP.le
    · exact (cP.fst p h).r cW.le
  · rcases (lst p).mp hp with h | ⟨_, h⟩
    · exact (cP.lst p h).r cW.le
    · exact (cW.lst p h).l cP.le
  · rcases (hfo p (h1 hp) q).mp hq with h | ⟨_, h⟩
    · rcases hp.cut (b := b) with hp | hp
      · exact (cW.fo p hp q h).l cP.le
      · exact (cP.fo p hp q h).r cW.le
    · exact (cP.fst q h).r cW.le
  · constructor
    · rintro (⟨rfl, h⟩ | ⟨p, hp, h⟩)
      · rw [nulE, Bool.and_eq_true] at h
        exact ⟨[], [], rfl, .inl ⟨rfl, h.1⟩, .inl ⟨rfl, h.2⟩⟩
      · rcases (fst p).mp hp with hp | ⟨hn, hp⟩
        · obtain ⟨u, v, e, hu, hv⟩ := (inL w p (cW.fst p hp)).mp h
          exact ⟨u, v, e, .inr ⟨p, hp, hu⟩, hv⟩
        · exact ⟨[], w, rfl, .inl ⟨rfl, hn⟩, .inr ⟨p, hp, (inR w p (cP.fst p hp)).mp h⟩⟩
    · rintro ⟨u, v, rfl, hu, hv⟩
      rcases hu with ⟨rfl, hn⟩ | ⟨p, hp, hu⟩
      · rcases hv with ⟨rfl, hn2⟩ | ⟨q, hq, hv⟩
        · exact .inl ⟨rfl, by rw [nulE, hn, hn2]; rfl⟩
        · exact .inr ⟨q, (fst q).mpr (.inr ⟨hn, hq⟩), (inR v q (cP.fst q hq)).mpr hv⟩
      · exact .inr ⟨p, (fst p).mpr (.inl hp), (inL _ p (cW.fst p hp)).mpr ⟨u, v, rfl, hu, hv⟩⟩
  · exact ho p hp hb
inductive Star (P : Lng) : Lng
  | nil : Star P []
  | cons {u v : List Nat} (h : P u) (r : Star P v) : Star P (u ++ v)
theorem Star.one {P : Lng} {u : List Nat} (h : P u) : Star P u := by
  have := Star.cons h .nil
  rwa [List.append_nil] at this
theorem Star.imp {P Q : Lng} (h : ∀ w, P w → Q w) {w : List Nat} (s : Star P w) : Star Q w := by
  induction s with
  | nil => exact .nil
  | cons h1 _ ih => exact .cons (h _ h1) ih
/-- joined with itself -/
theorem star_lang {a b n : Nat} {M : List (Option Nat)} {F : List (List Nat)} {P : PtM} (hn : n ≤ 12) (hF : FolOk n F) (hP : PtOk n P) (cP : Cl a b F P) :
    (∀ x, Cl a b (jnM F P.lst P.fst) ⟨x, P.fst, P.lst⟩) ∧ (∀ w, NL M (jnM F P.lst P.fst) P w ↔ ∃ u v, w = u ++ v ∧ NL M F P u ∧ Star (NL M F P) v) ∧ (∀ p, 1 ≤ p → ¬ Btw a b p → foA (jnM F P.lst P.fst) p = foA F p) := by
  have hj := fo_jn hP.1 hn hF hP.2
  have ho : ∀ p, 1 ≤ p → ¬ Btw a b p → foA (jnM F P.lst P.fst) p = foA F p := fun p hp hb => jnM_out hF hP.2 hp fun h => hb (cP.lst p h)
  generalize jnM F P.lst P.fst = F' at *
  have h1 : ∀ {p}, Btw a b p → 1 ≤ p := fun h => by have := h.1; omega
  have key : ∀ (w : List Nat) (p : Nat), Btw a b p → (Rd M F' P.lst p w ↔ ∃ u v, w = u ++ v ∧ Rd M F P.lst p u ∧ (v = [] ∨ NL M F' P v)) := by
    intro w
    induction w with
    | nil =>
      intro p _
      constructor
      · intro h; exact h.elim
      · rintro ⟨u, v, e, h, _⟩
        have : u = [] := (List.append_eq_nil_iff.mp e.symm).1
        rw [this] at h; exact h.elim
    | cons k r ih =>
      intro p hp
      constructor
      · rintro ⟨hk, ⟨rfl, h⟩ | ⟨x, hx, h⟩⟩
        · exact ⟨[k], [], rfl, ⟨hk, .inl ⟨rfl, h⟩⟩, .inl rfl⟩
        · rcases (hj p (h1 hp) x).mp hx with hx | ⟨hx, hx2⟩
          · obtain ⟨u, v, e, hu, hv⟩ := (ih x (cP.fo p hp x hx)).mp h
            exact ⟨k :: u, v, by rw [e]; rfl, ⟨hk, .inr ⟨x, hx, hu⟩⟩, hv⟩
          · exact ⟨[k], r, rfl, ⟨hk, .inl ⟨rfl, hx⟩⟩, .inr ⟨x, hx2, h⟩⟩
      · rintro ⟨u, v, e, hu, hv⟩
        cases u with
        | nil => exact hu.elim
        | cons k' u =>
          obtain ⟨rfl, rfl⟩ := List.cons.inj e
          obtain ⟨hk, ⟨rfl, hl⟩ | ⟨x, hx, hx2⟩⟩ := hu
          · refine ⟨hk, ?_⟩
            rcases hv with rfl | ⟨q, hq, hv⟩
            · exact .inl ⟨rfl, hl⟩
            · exact .inr ⟨q, (hj p (h1 hp) q).mpr (.inr ⟨hl, hq⟩), hv⟩
          · exact ⟨hk, .inr ⟨x, (hj p (h1 hp) x).mpr (.inl hx), (ih x (cP.fo p hp x hx)).mpr ⟨u, v, rfl, hx2, hv⟩⟩⟩
  have step : ∀ w, NL M F' P w ↔ ∃ u v, w = u ++ v ∧ NL M F P u ∧ (v = [] ∨ NL M F' P v) := fun w => by
    constructor
    · rintro ⟨p, hp, h⟩
      obtain ⟨u, v, e, hu, hv⟩ := (key w p (cP.fst p hp)).mp h
      exact ⟨u, v, e, ⟨p, hp, hu⟩, hv⟩
    · rintro ⟨u, v, e, ⟨p, hp, hu⟩, hv⟩
      exact ⟨p, hp, (key w p (cP.fst p hp)).mpr ⟨u, v, e, hu, hv⟩⟩
  have ne : ∀ {u}, NL M F P u → u ≠ [] := fun h => by
    obtain ⟨p, _, h⟩ := h
    exact h.ne
  refine ⟨fun x => ⟨cP.le, cP.fst, cP.lst, fun p hp q hq => ?_⟩, fun w => ?_, ho⟩
  · rcases (hj p (h1 hp) q).mp hq with h | ⟨_, h⟩
    · exact cP.fo p hp q h
    · exact cP.fst q h
  · have dir1 : ∀ (m : Nat) (w : List Nat), w.length ≤ m → NL M F' P w → ∃ u v, w = u ++ v ∧ NL M F P u ∧ Star (NL M F P) v := by
      intro m
      induction m with
      | zero =>
        intro w hw h
        obtain ⟨u, v, e, hu, _⟩ := (step w).mp h
        have : w = [] := List.eq_nil_of_length_eq_zero (by omega)
        rw [this] at e
        exact (ne hu (List.append_eq_nil_iff.mp e.symm).1).elim
      | succ m ih =>
        intro w hw h
        obtain ⟨u, v, e, hu, hv⟩ := (step w).mp h
        refine ⟨u, v, e, hu, ?_⟩
        rcases hv with rfl | hv
        · exact .nil
        · have : 0 < u.length := List.length_pos_iff.mpr (ne hu)
          obtain ⟨u', v', e', hu', hv'⟩ := ih v (by rw [e] at hw; simp at hw; omega) hv
          rw [e']
          exact .cons hu' hv'
    constructor
    · exact dir1 w.length w (Nat.le_refl _)
    · rintro ⟨u, v, e, hu, hv⟩
      have : ∀ v, Star (NL M F P) v → v = [] ∨ NL M F' P v := fun v hv => by
        induction hv with
        | nil => exact .inl rfl
        | cons h _ ih => exact .inr ((step _).mpr ⟨_, _, rfl, h, ih⟩)
      exact (step w).mpr ⟨u, v, e, hu, this v hv⟩
theorem star_ne {P N : Lng} (h : ∀ w, P w ↔ (w = [] ∧ P []) ∨ N w) {w : List Nat} : Star P w ↔ Star N w := by
  constructor
  · intro s
    induction s with
    | nil => exact .nil
    | cons h1 _ ih =>
      rcases (h _).mp h1 with ⟨rfl, _⟩ | h1
      · exact ih
      · exact .cons h1 ih
  · exact Star.imp fun w hw => (h w).mpr (.inr hw)
/-- what the three signs make of a language -/
def starL (k : Nat) (P : Lng) : Lng := fun w => if k = 42 then Star P w else if k = 43 then ∃ u v, w = u ++ v ∧ P u ∧ Star P v else w = [] ∨ P w
theorem PL.nul {M : List (Option Nat)} {F : List (List Nat)} {P : PtM} (w : List Nat) : PL M F P w ↔ (w = [] ∧ PL M F P []) ∨ NL M F P w := by
  constructor
  · rintro (⟨rfl, h⟩ | h)
    · exact .inl ⟨rfl, .inl ⟨rfl, h⟩⟩
    · exact .inr h
  · rintro (⟨rfl, h⟩ | h)
    · exact h
    · exact .inr h
theorem signs_lang {a b n k : Nat} {M : List (Option Nat)} {F : List (List Nat)} {P : PtM} (hk : k = 42 ∨ k = 43 ∨ k = 63) (hn : n ≤ 12) (hF : FolOk n F) (hP : PtOk n P) (cP : Cl a b F P) {L : Lng} (hL : ∀ w, PL M F P w ↔ L w) :
    Cl a b (if k = 63 then F else jnM F P.lst P.fst) ⟨P.nul || !decide (k = 43), P.fst, P.lst⟩ ∧ (∀ w, PL M (if k = 63 then F else jnM F P.lst P.fst) ⟨P.nul || !decide (k = 43), P.fst, P.lst⟩ w ↔ starL k L w) ∧ (∀ p, 1 ≤ p → ¬ Btw a b p → foA (if k = 63 then F else jnM F P.lst P.fst) p = foA F p) := by
  obtain ⟨s1, s2, s3⟩ := star_lang (M := M) hn hF hP cP
  have hS : ∀ w, Star L w ↔ Star (NL M F P) w := fun w => by
    have : Star L w ↔ Star (PL M F P) w := ⟨Star.imp fun w h => (hL w).mpr h, Star.imp fun w h => (hL w).mp h⟩
    rw [this]
    exact star_ne PL.nul
  have hNL : ∀ (x : Bool) (G : List (List Nat)) (w : List Nat), NL M G ⟨x, P.fst, P.lst⟩ w ↔ NL M G P w := fun x G w => Iff.rfl
  rcases hk with rfl | rfl | rfl
  · rw [if_neg (by decide)]
    refine ⟨s1 _, fun w => ?_, s3⟩
    unfold starL PL
    rw [if_pos rfl, hNL, s2 w, hS w]
    constructor
    · rintro (⟨rfl, _⟩ | ⟨u, v, rfl, hu, hv⟩)
      · exact .nil
      · exact .cons hu hv
    · intro h
      cases h with
      | nil => exact .inl ⟨rfl, by cases P.nul <;> rfl⟩
      | cons hu hv => exact .inr ⟨_, _, rfl, hu, hv⟩
  · rw [if_neg (by decide)]
    refine ⟨s1 _, fun w => ?_, s3⟩
    unfold starL PL
    rw [if_neg (by decide), if_pos rfl, hNL, s2 w]
    have hnul : (P.nul || !decide ((43 : Nat) = 43)) = P.nul := by simp
    rw [hnul]
    constructor
    · rintro (⟨rfl, h⟩ | ⟨u, v, rfl, hu, hv⟩)
      · exact ⟨[], [], rfl, (hL []).mp (.inl ⟨rfl, h⟩), .nil⟩
      · exact ⟨u, v, rfl, (hL u).mp (.inr hu), (hS v).mpr hv⟩
    · rintro ⟨u, v, rfl, hu, hv⟩
      rcases (hL u).mpr hu with ⟨rfl, h⟩ | hu
      · cases (hS v).mp hv with
        | nil => exact .inl ⟨rfl, h⟩
        | @cons u' v' h1 h2 => exact .inr ⟨u', v', List.nil_append _, h1, h2⟩
      · exact .inr ⟨u, v, rfl, hu, (hS v).mp hv⟩
  · rw [if_pos rfl]
    refine ⟨⟨cP.le, cP.fst, cP.lst, cP.fo⟩, fun w => ?_, fun _ _ _ => rfl⟩
    unfold starL
    rw [if_neg (by decide), if_neg (by decide), ← hL w]
    unfold PL
    rw [hNL]
    have hnul : (P.nul || !decide ((63 : Nat) = 43)) = true := by cases P.nul <;> rfl
    rw [hnul]
    constructor
    · rintro (⟨h, _⟩ | h)
      · exact .inl h
      · exact .inr (.inr h)
    · rintro (h | ⟨h, _⟩ | h)
      · exact .inl ⟨h, rfl⟩
      · exact .inl ⟨h, rfl⟩
      · exact .inr h
theorem alt_lang {a b c n : Nat} {M : List (Option Nat)} {F : List (List Nat)} {W P : PtM} (hn : n ≤ 12) (hW : PtOk n W) (hP : PtOk n P) (cW : Cl a b F W) (cP : Cl b c F P) :
    Cl a c F ⟨W.nul || P.nul, mrg W.fst P.fst, mrg W.lst P.lst⟩ ∧ ∀ w, PL M F ⟨W.nul || P.nul, mrg W.fst P.fst, mrg W.lst P.lst⟩ w ↔ PL M F W w ∨ PL M F P w := by
  have fst : ∀ x, x ∈ mrg W.fst P.fst ↔ x ∈ W.fst ∨ x ∈ P.fst := fun x => by
    rw [mem_mrg]
    refine ⟨fun h => h.2, fun h => ⟨?_, h⟩⟩
    rcases h with h | h
    · have := (hW.1.1 x h).2; omega
    · have := (hP.1.1 x h).2; omega
  have lst : ∀ x, x ∈ mrg W.lst P.lst ↔ x ∈ W.lst ∨ x ∈ P.lst := fun x => by
    rw [mem_mrg]
    refine ⟨fun h => h.2, fun h => ⟨?_, h⟩⟩
    rcases h with h | h
    · have := (hW.2.1 x h).2; omega
    · have := (hP.2.1 x h).2; omega
  have sm : ∀ a b, SameIn a b M M F F := fun _ _ _ _ => ⟨rfl, rfl⟩
  have inL := fun w p hp => Rd.same (L := W.lst) (L' := mrg W.lst P.lst) (sm a b) (fun p hp => by
    rw [lst]
    exact ⟨fun h => h.elim id fun h => (hp.out (cP.lst p h)).elim, .inl⟩) cW.fo w p hp
  have inR := fun w p hp => Rd.same (L := P.lst) (L' := mrg W.lst P.lst) (sm b c) (fun p hp => by
    rw [lst]
    exact ⟨fun h => h.elim (fun h => ((cW.lst p h).out hp).elim) id, .inr⟩) cP.fo w p hp
  refine ⟨⟨Nat.le_trans cW.le cP.le, fun p hp => ?_, fun p hp => ?_, fun p hp q hq => ?_⟩, fun w => ?_⟩
  · rcases (fst p).mp hp with h | h
    · exact (cW.fst p h).l cP.le
    · exact (cP.fst p h).r cW.le
  · rcases (lst p).mp hp with h | h
    · exact (cW.lst p h).l cP.le
    · exact (cP.lst p h).r cW.le
  · rcases hp.cut (b := b) with hp | hp
    · exact (cW.fo p hp q hq).l cP.le
    · exact (cP.fo p hp q hq).r cW.le
  · constructor
    · rintro (⟨rfl, h⟩ | ⟨p, hp, h⟩)
      · rcases Bool.or_eq_true_iff.mp h with h | h
        · exact .inl (.inl ⟨rfl, h⟩)
        · exact .inr (.inl ⟨rfl, h⟩)
      · rcases (fst p).mp hp with hp | hp
        · exact .inl (.inr ⟨p, hp, (inL w p (cW.fst p hp)).mp h⟩)
        · exact .inr (.inr ⟨p, hp, (inR w p (cP.fst p hp)).mp h⟩)
    · rintro ((⟨rfl, h⟩ | ⟨p, hp, h⟩) | (⟨rfl, h⟩ | ⟨p, hp, h⟩))
      · exact .inl ⟨rfl, by show (W.nul || P.nul) = true; rw [h]; rfl⟩
      · exact .inr ⟨p, (fst p).mpr (.inl hp), (inL w p (cW.fst p hp)).mpr h⟩
      · exact .inl ⟨rfl, by show (W.nul || P.nul) = true; rw [h, Bool.or_true]⟩
      · exact .inr ⟨p, (fst p).mpr (.inr hp), (inR w p (cP.fst p hp)).mpr h⟩
/-- one place -/
theorem one_lang {n : Nat} {M : List (Option Nat)} {F : List (List Nat)} (hf : foA F (n + 1) = []) : Cl n (n + 1) F ⟨false, [n + 1], [n + 1]⟩ ∧ ∀ w, PL M F ⟨false, [n + 1], [n + 1]⟩ w ↔ ∃ k, w = [k] ∧ fit (mkA M (n + 1)) k := by
  have b1 : Btw n (n + 1) (n + 1) := ⟨by omega, by omega⟩
  refine ⟨⟨by omega, fun p hp => by rw [List.mem_singleton.mp hp]; exact b1, fun p hp => by rw [List.mem_singleton.mp hp]; exact b1, fun p hp q hq => ?_⟩, fun w => ?_⟩
  · have : p = n + 1 := by unfold Btw at hp; omega
    rw [this, hf] at hq
    cases hq
  · constructor
    · rintro (⟨_, h⟩ | ⟨p, hp, h⟩)
      · cases h
      · have hp : p = n + 1 := List.mem_singleton.mp hp
        subst hp
        cases w with
        | nil => exact h.elim
        | cons k r =>
          obtain ⟨hk, ⟨rfl, _⟩ | ⟨q, hq, _⟩⟩ := h
          · exact ⟨k, rfl, hk⟩
          · rw [hf] at hq; cases hq
    · rintro ⟨k, rfl, hk⟩
      exact .inr ⟨n + 1, List.mem_singleton.mpr rfl, hk, .inl ⟨rfl, List.mem_singleton.mpr rfl⟩⟩
def CatL : List Lng → Lng
  | [], w => w = []
  | L :: r, w => ∃ u v, w = u ++ v ∧ L u ∧ CatL r v
def AnyL (Ls : List Lng) : Lng := fun w => ∃ L, L ∈ Ls ∧ L w
inductive Ps (M : List (Option Nat)) (F : List (List Nat)) (n : Nat) : Nat → Nat → List PtM → List Lng → Prop
  | nil (a : Nat) : Ps M F n a a [] []
  | cons {a b c : Nat} {P : PtM} {L : Lng} {r : List PtM} {Ls : List Lng} (h1 : Cl a b F P) (h2 : PtOk n P) (h3 : ∀ w, PL M F P w ↔ L w) (r1 : Ps M F n b c r Ls) : Ps M F n a c (P :: r) (L :: Ls)
theorem Ps.le {M : List (Option Nat)} {F : List (List Nat)} {n a c : Nat} {b : List PtM} {Ls : List Lng} (h : Ps M F n a c b Ls) : a ≤ c := by
  induction h with
  | nil a => exact Nat.le_refl a
  | cons h1 _ _ _ ih => exact Nat.le_trans h1.le ih
theorem SameIn.sub {a b c d : Nat} {M M' : List (Option Nat)} {F F' : List (List Nat)} (s : SameIn a d M M' F F') (h1 : a ≤ b) (h2 : c ≤ d) : SameIn b c M M' F F' := fun p hp => s p ⟨Nat.lt_of_le_of_lt h1 hp.1, Nat.le_trans hp.2 h2⟩
theorem Ps.same {M M' : List (Option Nat)} {F F' : List (List Nat)} {n m a c : Nat} {b : List PtM} {Ls : List Lng} (h : Ps M F n a c b Ls) (s : SameIn a c M M' F F') (hm : n ≤ m) : Ps M' F' m a c b Ls := by
  induction h with
  | nil a => exact .nil a
  | cons h1 h2 h3 r1 ih =>
    have s1 := s.sub (Nat.le_refl _) r1.le
    exact .cons (h1.same s1) (h2.mono hm) (fun w => (PL.same h1 s1 w).trans (h3 w)) (ih (s.sub h1.le (Nat.le_refl _)))
theorem Ps.app {M : List (Option Nat)} {F : List (List Nat)} {n a b c : Nat} {x y : List PtM} {L K : List Lng} (h : Ps M F n a b x L) (h' : Ps M F n b c y K) : Ps M F n a c (x ++ y) (L ++ K) := by
  induction h with
  | nil a => exact h'
  | cons h1 h2 h3 _ ih => exact .cons h1 h2 h3 (ih h')
theorem row_ok2 {n : Nat} {F : List (List Nat)} {W P : PtM} (hF : FolOk n F) (hW : PtOk n W) (hP : PtOk n P) : FolOk n (rowS (F, W) P).1 ∧ PtOk n (rowS (F, W) P).2 := WOk.row (w := (F, W)) ⟨hF, hW⟩ hP
/-- parts one after another -/
theorem rows_many {n : Nat} (hn : n ≤ 12) {M : List (Option Nat)} : ∀ {r : List PtM} {a b c : Nat} {F : List (List Nat)} {W : PtM} {LW : Lng} {Ls : List Lng}, FolOk n F → PtOk n W → Cl a b F W → (∀ w, PL M F W w ↔ LW w) → Ps M F n b c r Ls →
    FolOk n (r.foldl rowS (F, W)).1 ∧ PtOk n (r.foldl rowS (F, W)).2 ∧ Cl a c (r.foldl rowS (F, W)).1 (r.foldl rowS (F, W)).2 ∧ (∀ w, PL M (r.foldl rowS (F, W)).1 (r.foldl rowS (F, W)).2 w ↔ ∃ u v, w = u ++ v ∧ LW u ∧ CatL Ls v) ∧ (∀ p, 1 ≤ p → ¬ Btw a c p → foA (r.foldl rowS (F, W)).1 p = foA F p)
  | [], a, b, c, F, W, LW, Ls, hF, hW, cW, hL, hp => by
    cases hp
    refine ⟨hF, hW, cW, fun w => ?_, fun _ _ _ => rfl⟩
    show PL M F W w ↔ _
    rw [hL]
    constructor
    · intro h; exact ⟨w, [], (List.append_nil w).symm, h, rfl⟩
    · rintro ⟨u, v, rfl, hu, rfl⟩
      rw [List.append_nil]; exact hu
  | P :: r, a, b, c, F, W, LW, Ls, hF, hW, cW, hL, hp => by
    cases hp with
    | @cons _ b' _ _ L _ Ls h1 h2 h3 r1 =>
      obtain ⟨c1, l1, o1⟩ := row_lang (M := M) hn hF hW h2 cW h1
      obtain ⟨f1, p1⟩ := row_ok2 hF hW h2
      have hs : SameIn b' c M M F (rowS (F, W) P).1 := fun p hp => ⟨rfl, o1 p (by have := hp.1; omega) fun z => by have := z.2; have := h1.le; have := hp.1; omega⟩
      have ih := rows_many hn (r := r) (F := (rowS (F, W) P).1) (W := (rowS (F, W) P).2) (LW := fun w => ∃ u v, w = u ++ v ∧ LW u ∧ L v) f1 p1 c1 (fun w => by
        rw [l1]
        constructor
        · rintro ⟨u, v, e, hu, hv⟩; exact ⟨u, v, e, (hL u).mp hu, (h3 v).mp hv⟩
        · rintro ⟨u, v, e, hu, hv⟩; exact ⟨u, v, e, (hL u).mpr hu, (h3 v).mpr hv⟩) (r1.same hs (Nat.le_refl n))
      obtain ⟨i1, i2, i3, i4, i5⟩ := ih
      refine ⟨i1, i2, i3, fun w => ?_, fun p hp hb => ?_⟩
      · show PL M (r.foldl rowS (rowS (F, W) P)).1 (r.foldl rowS (rowS (F, W) P)).2 w ↔ _
        rw [i4]
        constructor
        · rintro ⟨u, v, rfl, ⟨u1, u2, rfl, h1, h2⟩, hv⟩
          exact ⟨u1, u2 ++ v, by rw [List.append_assoc], h1, u2, v, rfl, h2, hv⟩
        · rintro ⟨u, v, rfl, hu, v1, v2, rfl, h1, h2⟩
          exact ⟨u ++ v1, v2, by rw [List.append_assoc], ⟨u, v1, rfl, hu, h1⟩, h2⟩
      · have := i5 p hp hb
        refine this.trans (o1 p hp fun z => hb ⟨z.1, ?_⟩)
        have := z.2; have := h1.le; have := r1.le
        omega
theorem rowM_lang {n a c : Nat} (hn : n ≤ 12) {M : List (Option Nat)} {F : List (List Nat)} {b : List PtM} {Ls : List Lng} (hF : FolOk n F) (hp : Ps M F n a c b Ls) :
    FolOk n (rowM F b).1 ∧ PtOk n (rowM F b).2 ∧ Cl a c (rowM F b).1 (rowM F b).2 ∧ (∀ w, PL M (rowM F b).1 (rowM F b).2 w ↔ CatL Ls w) ∧ (∀ p, 1 ≤ p → ¬ Btw a c p → foA (rowM F b).1 p = foA F p) := by
  have c0 : Cl a a F ⟨true, [], []⟩ := ⟨Nat.le_refl a, fun _ h => (by cases h), fun _ h => (by cases h), fun p hp => by have := hp.1; have := hp.2; omega⟩
  obtain ⟨i1, i2, i3, i4, i5⟩ := rows_many hn (W := ⟨true, [], []⟩) (LW := fun w => w = []) hF ⟨PlOk.nil n, PlOk.nil n⟩ c0 (fun w => by
    constructor
    · rintro (⟨h, _⟩ | ⟨p, hp, _⟩)
      · exact h
      · cases hp
    · intro h; exact .inl ⟨h, rfl⟩) hp
  refine ⟨i1, i2, i3, fun w => (i4 w).trans ?_, i5⟩
  constructor
  · rintro ⟨u, v, rfl, rfl, h⟩; exact h
  · intro h; exact ⟨[], w, rfl, rfl, h⟩
inductive Brs (M : List (Option Nat)) (F : List (List Nat)) (n : Nat) : Nat → Nat → List (List PtM) → List Lng → Prop
  | nil (a : Nat) : Brs M F n a a [] []
  | cons {a b c : Nat} {x : List PtM} {L : Lng} {Ls : List Lng} {r : List (List PtM)} {LL : List Lng} (h1 : Ps M F n a b x Ls) (h2 : ∀ w, CatL Ls w ↔ L w) (r1 : Brs M F n b c r LL) : Brs M F n a c (x :: r) (L :: LL)
theorem Brs.le {M : List (Option Nat)} {F : List (List Nat)} {n a c : Nat} {b : List (List PtM)} {Ls : List Lng} (h : Brs M F n a c b Ls) : a ≤ c := by
  induction h with
  | nil a => exact Nat.le_refl a
  | cons h1 _ _ ih => exact Nat.le_trans h1.le ih
theorem Brs.same {M M' : List (Option Nat)} {F F' : List (List Nat)} {n m a c : Nat} {b : List (List PtM)} {Ls : List Lng} (h : Brs M F n a c b Ls) (s : SameIn a c M M' F F') (hm : n ≤ m) : Brs M' F' m a c b Ls := by
  induction h with
  | nil a => exact .nil a
  | cons h1 h2 r1 ih => exact .cons (h1.same (s.sub (Nat.le_refl _) r1.le) hm) h2 (ih (s.sub h1.le (Nat.le_refl _)))
theorem Brs.app {M : List (Option Nat)} {F : List (List Nat)} {n a b c : Nat} {x y : List (List PtM)} {L K : List Lng} (h : Brs M F n a b x L) (h' : Brs M F n b c y K) : Brs M F n a c (x ++ y) (L ++ K) := by
  induction h with
  | nil a => exact h'
  | cons h1 h2 _ ih => exact .cons h1 h2 (ih h')
theorem chos_many {n : Nat} (hn : n ≤ 12) {M : List (Option Nat)} : ∀ {bs : List (List PtM)} {a b c : Nat} {F : List (List Nat)} {W : PtM} {LW : Lng} {LL : List Lng}, FolOk n F → PtOk n W → Cl a b F W → (∀ w, PL M F W w ↔ LW w) → Brs M F n b c bs LL →
    FolOk n (bs.foldl choS (F, W)).1 ∧ PtOk n (bs.foldl choS (F, W)).2 ∧ Cl a c (bs.foldl choS (F, W)).1 (bs.foldl choS (F, W)).2 ∧ (∀ w, PL M (bs.foldl choS (F, W)).1 (bs.foldl choS (F, W)).2 w ↔ LW w ∨ AnyL LL w) ∧ (∀ p, 1 ≤ p → ¬ Btw a c p → foA (bs.foldl choS (F, W)).1 p = foA F p)
  | [], a, b, c, F, W, LW, LL, hF, hW, cW, hL, hp => by
    cases hp
    refine ⟨hF, hW, cW, fun w => ?_, fun _ _ _ => rfl⟩
    show PL M F W w ↔ _
    rw [hL]
    constructor
    · exact .inl
    · rintro (h | ⟨L, h, _⟩)
      · exact h
      · cases h
  | x :: bs, a, b, c, F, W, LW, LL, hF, hW, cW, hL, hp => by
    cases hp with
    | @cons _ b' _ _ L Ls _ LL h1 h2 r1 =>
      obtain ⟨f1, p1, c1, l1, o1⟩ := rowM_lang hn hF h1
      have sW : SameIn a b M M F (rowM F x).1 := fun p hp => ⟨rfl, o1 p (by have := hp.1; omega) fun z => by have := z.1; have := hp.2; omega⟩
      have cW' := cW.same sW
      have lW' : ∀ w, PL M (rowM F x).1 W w ↔ LW w := fun w => (PL.same cW sW w).trans (hL w)
      obtain ⟨c2, l2⟩ := alt_lang (M := M) hn hW p1 cW' c1
      have w2 : PtOk n ⟨W.nul || (rowM F x).2.nul, mrg W.fst (rowM F x).2.fst, mrg W.lst (rowM F x).2.lst⟩ := ⟨hW.1.mrg p1.1, hW.2.mrg p1.2⟩
      have sR : SameIn b' c M M F (rowM F x).1 := fun p hp => ⟨rfl, o1 p (by have := hp.1; omega) fun z => by have := z.2; have := hp.1; omega⟩
      obtain ⟨i1, i2, i3, i4, i5⟩ := chos_many hn (bs := bs) (F := (rowM F x).1) (LW := fun w => LW w ∨ L w) f1 w2 c2 (fun w => by
        rw [l2, lW', l1, h2]) (r1.same sR (Nat.le_refl n))
      refine ⟨i1, i2, i3, fun w => ?_, fun p hp hb => ?_⟩
      · show PL M (bs.foldl choS (choS (F, W) x)).1 (bs.foldl choS (choS (F, W) x)).2 w ↔ _
        refine (i4 w).trans ?_
        constructor
        · rintro ((h | h) | ⟨K, hK, h⟩)
          · exact .inl h
          · exact .inr ⟨L, List.mem_cons_self .., h⟩
          · exact .inr ⟨K, List.mem_cons_of_mem _ hK, h⟩
        · rintro (h | ⟨K, hK, h⟩)
          · exact .inl (.inl h)
          · rcases List.mem_cons.mp hK with e | hK
            · rw [e] at h; exact .inl (.inr h)
            · exact .inr ⟨K, hK, h⟩
      · refine (i5 p hp hb).trans (o1 p hp fun z => hb ⟨?_, ?_⟩)
        · have := z.1; have := cW.le; omega
        · have := z.2; have := r1.le; omega
theorem choF_lang {n a c : Nat} (hn : n ≤ 12) {M : List (Option Nat)} {F : List (List Nat)} {f : FrM} {LL : List Lng} (hF : FolOk n F) (hp : Brs M F n a c (f.1 ++ [f.2]) LL) :
    FolOk n (choF F f).1 ∧ PtOk n (choF F f).2 ∧ Cl a c (choF F f).1 (choF F f).2 ∧ (∀ w, PL M (choF F f).1 (choF F f).2 w ↔ AnyL LL w) ∧ (∀ p, 1 ≤ p → ¬ Btw a c p → foA (choF F f).1 p = foA F p) := by
  unfold choF
  cases hb : f.1 ++ [f.2] with
  | nil => simp at hb
  | cons x bs =>
    rw [hb] at hp
    cases hp with
    | @cons _ b' _ _ L Ls _ LL h1 h2 r1 =>
      obtain ⟨f1, p1, c1, l1, o1⟩ := rowM_lang hn hF h1
      have sR : SameIn b' c M M F (rowM F x).1 := fun p hp => ⟨rfl, o1 p (by have := hp.1; omega) fun z => by have := z.2; have := hp.1; omega⟩
      obtain ⟨i1, i2, i3, i4, i5⟩ := chos_many hn (bs := bs) (F := (rowM F x).1) (W := (rowM F x).2) (LW := L) f1 p1 c1 (fun w => (l1 w).trans (h2 w)) (r1.same sR (Nat.le_refl n))
      refine ⟨i1, i2, i3, fun w => ?_, fun p hp hb => ?_⟩
      · refine (i4 w).trans ?_
        constructor
        · rintro (h | ⟨K, hK, h⟩)
          · exact ⟨L, List.mem_cons_self .., h⟩
          · exact ⟨K, List.mem_cons_of_mem _ hK, h⟩
        · rintro ⟨K, hK, h⟩
          rcases List.mem_cons.mp hK with e | hK
          · rw [e] at h; exact .inl h
          · exact .inr ⟨K, hK, h⟩
      · refine (i5 p hp hb).trans (o1 p hp fun z => hb ⟨z.1, ?_⟩)
        have := z.2; have := r1.le; omega
def LTS : List Nat := [98, 97, 100, 99, 101, 122, 121, 120, 119, 118]
theorem alph_ok (L : List Int) (n k : Nat) (h1 : 1 ≤ k) (h2 : k ≤ 5) : ∃ z, z < 5 ∧ sem_law_alphabet [boxO L n, .fz (dN k)] = .ok (.fz (.str ((LTS.drop z).take k))) [some (boxO L (n + 1))] := by
  obtain ⟨z, hz, ez⟩ := draw_ok L n 5 (by decide)
  refine ⟨z, hz, ?_⟩
  unfold sem_law_alphabet body_law_alphabet
  have e : sliceD (.str [98, 97, 100, 99, 101, 122, 121, 120, 119, 118]) (some (z : Int)) (some ((z + k : Nat) : Int)) = some (.fz (.str ((LTS.drop z).take k))) := by
    show (if LTS.length ≤ line then some (O.fz (.str (sliceL LTS (some (z : Int)) (some ((z + k : Nat) : Int))))) else none) = _
    rw [if_pos (by decide)]
    unfold sliceL clampI
    have : LTS.length = 10 := by rfl
    simp only [Int.natCast_nonneg, if_true, Int.toNat_natCast, this]
    rw [Nat.min_eq_left (show z ≤ 10 by omega), Nat.min_eq_left (show z + k ≤ 10 by omega), List.drop_take, Nat.add_sub_cancel_left]
  simp_arith [ez, e]
inductive Tr where
  | any
  | ltr (c : Nat)
  | star (k : Nat) (t : Tr)
  | row (ts : List Tr)
  | alt (ts : List Tr)
mutual
def dTr : Tr → D
  | .any => .lst [.str [97, 110, 121]]
  | .ltr c => .lst [.str [108, 101, 116, 116, 101, 114], .str [c]]
  | .star k t => .lst [.str [115, 116, 97, 114], .str [k], dTr t]
  | .row ts => .lst [.str [114, 111, 119], .lst (dTrs ts)]
  | .alt ts => .lst [.str [111, 114], .lst (dTrs ts)]
def dTrs : List Tr → List D
  | [] => []
  | t :: r => dTr t :: dTrs r
end
theorem dTrs_map : ∀ ts : List Tr, dTrs ts = ts.map dTr
  | [] => by rw [dTrs]; rfl
  | t :: r => by rw [dTrs, dTrs_map r]; rfl
def TrOk (al : List Nat) : Nat → Tr → Prop
  | 0, .any => True
  | 0, .ltr c => c ∈ al
  | 0, .row ts => ts = []
  | 0, _ => False
  | _ + 1, .any => True
  | _ + 1, .ltr c => c ∈ al
  | d + 1, .star k t => (k = 42 ∨ k = 43 ∨ k = 63) ∧ TrOk al d t
  | d + 1, .row ts => ts.length ≤ 3 ∧ ∀ t ∈ ts, TrOk al d t
  | d + 1, .alt ts => (1 ≤ ts.length ∧ ts.length ≤ 3) ∧ ∀ t ∈ ts, TrOk al d t
theorem TrOk.any {al : List Nat} : ∀ d, TrOk al d .any
  | 0 => trivial
  | _ + 1 => trivial
theorem TrOk.ltr {al : List Nat} {c : Nat} (h : c ∈ al) : ∀ d, TrOk al d (.ltr c)
  | 0 => h
  | _ + 1 => h
theorem TrOk.row0 {al : List Nat} : ∀ d, TrOk al d (.row [])
  | 0 => rfl
  | _ + 1 => ⟨by decide, fun _ h => (by cases h)⟩
theorem item_stars {z : Nat} (h : z < 3) : ∃ k, (k = 42 ∨ k = 43 ∨ k = 63) ∧ itemD (.str [42, 43, 63]) (dN z) = some (.str [k]) := by
  have e := item_str (s := [42, 43, 63]) (i := z) h (by decide)
  refine ⟨_, ?_, e⟩
  rcases (by omega : z = 0 ∨ z = 1 ∨ z = 2) with rfl | rfl | rfl
  · exact .inl rfl
  · exact .inr (.inl rfl)
  · exact .inr (.inr rfl)
theorem tree_ok {al : List Nat} (h0 : 0 < al.length) (h1 : al.length ≤ line) (L : List Int) : ∀ (d f : Nat), d < f → ∀ n, ∃ t n' o, TrOk al d t ∧ O.fr o = dTr t ∧ sem_law_tree f [boxO L n, .fz (.str al), .fz (dN d)] = .ok o [some (boxO L n')] := by
  intro d
  induction d with
  | zero =>
    intro f hf n
    obtain ⟨g, rfl⟩ : ∃ g, f = g + 1 := ⟨f - 1, by omega⟩
    obtain ⟨z, hz, ez⟩ := draw_ok L n 9 (by decide)
    obtain ⟨z2, hz2, ez2⟩ := draw_ok L (n + 1) 4 (by decide)
    obtain ⟨z3, hz3, ez3⟩ := draw_ok L (n + 2) al.length h0
    have ei := item_str hz3 h1
    have hlen := len_str h1
    by_cases q : z2 = 0
    · refine ⟨.any, n + 2, .lst [.fz (.str [97, 110, 121])], TrOk.any 0, by rw [dTr]; rfl, ?_⟩
      unfold sem_law_tree body_law_tree
      simp_arith [ez, ez2, decide_true, decide_eq_true q]
    · refine ⟨.ltr (al.getD z3 0), n + 3, .lst [.fz (.str [108, 101, 116, 116, 101, 114]), .fz (.str [al.getD z3 0])], TrOk.ltr (getD_mem 0 hz3) 0, by rw [dTr]; rfl, ?_⟩
      unfold sem_law_tree body_law_tree
      simp_arith [ez, ez2, decide_true, decide_eq_false q, hlen, ez3, ei]
  | succ d ih =>
    intro f hf n
    obtain ⟨g, rfl⟩ : ∃ g, f = g + 1 := ⟨f - 1, by omega⟩
    have ih := ih g (by omega)
    obtain ⟨z, hz, ez⟩ := draw_ok L n 9 (by decide)
    have hd0 : decide (d + 1 = 0) = false := by simp
    have hsub : opSub (dN (d + 1)) (dN 1) = some (.fz (dN d)) := by rw [sub_dN (by omega)]; rfl
    by_cases q1 : z < 3
    · obtain ⟨z2, hz2, ez2⟩ := draw_ok L (n + 1) 4 (by decide)
      obtain ⟨z3, hz3, ez3⟩ := draw_ok L (n + 2) al.length h0
      have ei := item_str hz3 h1
      have hlen := len_str h1
      by_cases q : z2 = 0
      · refine ⟨.any, n + 2, .lst [.fz (.str [97, 110, 121])], TrOk.any _, by rw [dTr]; rfl, ?_⟩
        unfold sem_law_tree body_law_tree
        simp_arith [ez, ez2, hd0, decide_eq_true q1, decide_eq_true q]
      · refine ⟨.ltr (al.getD z3 0), n + 3, .lst [.fz (.str [108, 101, 116, 116, 101, 114]), .fz (.str [al.getD z3 0])], TrOk.ltr (getD_mem 0 hz3) _, by rw [dTr]; rfl, ?_⟩
        unfold sem_law_tree body_law_tree
        simp_arith [ez, ez2, hd0, decide_eq_true q1, decide_eq_false q, hlen, ez3, ei]
    · by_cases q2 : z < 5
      · obtain ⟨z2, hz2, ez2⟩ := draw_ok L (n + 1) 3 (by decide)
        obtain ⟨k, hk, ek⟩ := item_stars hz2
        obtain ⟨t, n', o, ht, ho, et⟩ := ih (n + 2)
        refine ⟨.star k t, n', .lst [.fz (.str [115, 116, 97, 114]), .fz (.str [k]), o], ⟨hk, ht⟩, ?_, ?_⟩
        · rw [dTr, fr_lst, frs_cons, frs_cons, frs_cons, ho]; rfl
        · unfold sem_law_tree body_law_tree
          simp_arith [ez, ez2, hd0, decide_eq_false q1, decide_eq_true q2, ek, hsub, et]
      · obtain ⟨m, hm, em⟩ := draw_ok L (n + 1) 4 (by decide)
        have hm' : m < 4611686018427387904 := by omega
        have comp : ∃ (ts : List Tr) (n' : Nat), ts.length = m ∧ (∀ t ∈ ts, TrOk al d t) ∧ ∃ os, frs os = ts.map dTr ∧ eComp [5] (.nm 5) (iRange1 (eCall sem_law_draw [.io 0, .v (eC (dN 4))])) tT (eCall (sem_law_tree g) [.io 0, .v (eP (pV 1)), .v (e2 opSub (eP (pV 2)) (eC (dN 1)))]) [some (boxO L (n + 1)), some (.fz (.str al)), some (.fz (dN (d + 1))), some (.fz (dN z)), none, none] = .ok (.lst os) [some (boxO L n'), some (.fz (.str al)), some (.fz (dN (d + 1))), some (.fz (dN z)), none, none] := by
          obtain ⟨os, n', hr, hl, ts, htl, hts, hf⟩ := comp_st_at (r := eComp [5] (.nm 5) (iRange1 (eCall sem_law_draw [.io 0, .v (eC (dN 4))])) tT (eCall (sem_law_tree g) [.io 0, .v (eP (pV 1)), .v (e2 opSub (eP (pV 2)) (eC (dN 1)))]) [some (boxO L (n + 1)), some (.fz (.str al)), some (.fz (dN (d + 1))), some (.fz (dN z)), none, none]) rfl (l := List.range m) dN (fun n => [some (boxO L n), some (.fz (.str al)), some (.fz (dN (d + 1))), some (.fz (dN z)), none, none]) (n + 2)
            (fun os _ => ∃ ts : List Tr, ts.length = os.length ∧ (∀ t ∈ ts, TrOk al d t) ∧ frs os = ts.map dTr) (by simp_arith [em, hm']) (fun s => rfl) (by rw [List.length_range]; unfold line; omega) ⟨[], rfl, fun _ h => (by cases h), rfl⟩ (by
              rintro i acc s hi ⟨ts, h1, h2, h3⟩
              obtain ⟨t, n', o, ht, ho, et⟩ := ih s
              refine ⟨[some (boxO L s), some (.fz (.str al)), some (.fz (dN (d + 1))), some (.fz (dN z)), none, some (.fz (dN i))], o, n', [some (boxO L n'), some (.fz (.str al)), some (.fz (dN (d + 1))), some (.fz (dN z)), none, some (.fz (dN i))], rfl, ?_, rfl, ts ++ [t], by simp [h1], ?_, ?_⟩
              · simp_arith [hsub, et]
              · intro x hx
                rcases List.mem_append.mp hx with hx | hx
                · exact h2 x hx
                · rw [List.mem_singleton.mp hx]; exact ht
              · rw [frs_app, h3, List.map_append, frs_cons, ho]; rfl) (fun s s' => rfl)
          exact ⟨ts, n', by rw [htl, hl, List.length_range], hts, os, hf, hr⟩
        obtain ⟨ts, n', htl, hts, os, hf, ec⟩ := comp
        by_cases q3 : z < 7
        · refine ⟨.row ts, n', .lst [.fz (.str [114, 111, 119]), .fz (.lst (ts.map dTr))], ⟨by omega, hts⟩, by rw [dTr, dTrs_map]; rfl, ?_⟩
          unfold sem_law_tree body_law_tree
          simp_arith [ez, hd0, decide_eq_false q1, decide_eq_false q2, ec, hf, decide_eq_true q3]
        · by_cases q4 : ts = []
          · refine ⟨.alt [.row []], n', .lst [.fz (.str [111, 114]), .fz (.lst [.lst [.str [114, 111, 119], .lst []]])], ⟨⟨by decide, by decide⟩, fun t ht => ?_⟩, ?_, ?_⟩
            · rw [List.mem_singleton.mp ht]; exact TrOk.row0 d
            · rw [dTr, dTrs_map]
              show D.lst [_, D.lst [D.lst [_, _]]] = D.lst [_, D.lst [dTr (.row [])]]
              rw [dTr, dTrs_map]; rfl
            · subst q4
              unfold sem_law_tree body_law_tree
              simp_arith [ez, hd0, decide_eq_false q1, decide_eq_false q2, ec, hf, decide_eq_false q3, decide_true]
          · refine ⟨.alt ts, n', .lst [.fz (.str [111, 114]), .fz (.lst (ts.map dTr))], ⟨⟨?_, by omega⟩, hts⟩, by rw [dTr, dTrs_map]; rfl, ?_⟩
            · have := List.length_pos_iff.mpr q4
              omega
            · have q5 : decide (ts.length = 0) = false := by simp [q4]
              unfold sem_law_tree body_law_tree
              simp_arith [ez, hd0, decide_eq_false q1, decide_eq_false q2, ec, hf, decide_eq_false q3, q5, y_len_map]
def isStar : Tr → Bool
  | .star _ _ => true
  | _ => false
def par (b : Bool) (x : List Nat) : List Nat := if b = true then x else [40] ++ x ++ [41]
mutual
def txM : Tr → Nat → List Nat
  | .any, _ => [46]
  | .ltr c, _ => [c]
  | .star k t, l => par (decide (l < 2)) (txM t (if isStar t = true then 1 else 2) ++ [k])
  | .row ts, l => par (decide (l = 0)) (txMs ts 1).flatten
  | .alt ts, l => par (decide (l = 0) && decide (1 < ts.length)) (joinL [124] (txMs ts 0))
def txMs : List Tr → Nat → List (List Nat)
  | [], _ => []
  | t :: r, l => txM t l :: txMs r l
end
theorem txMs_map : ∀ (ts : List Tr) (l : Nat), txMs ts l = ts.map fun t => txM t l
  | [], _ => by rw [txMs]; rfl
  | t :: r, l => by rw [txMs, txMs_map r]; rfl
def LB : Nat → Nat
  | 0 => 2
  | d + 1 => 3 * LB d + 6
theorem LB_pos (d : Nat) : 2 ≤ LB d := by
  induction d with
  | zero => exact Nat.le_refl _
  | succ d ih => show 2 ≤ 3 * LB d + 6; omega
theorem par_len (b : Bool) (x : List Nat) : (par b x).length ≤ x.length + 2 := by
  unfold par
  split
  · omega
  · simp
theorem sizeL_le {B : Nat} {sep : List Nat} : ∀ {l : List (List Nat)}, (∀ x ∈ l, x.length ≤ B) → sizeL sep l ≤ l.length * (B + sep.length)
  | [], _ => Nat.zero_le _
  | x :: r, h => by
    have h1 := h x (List.mem_cons_self ..)
    have h2 := sizeL_le (sep := sep) fun y hy => h y (List.mem_cons_of_mem x hy)
    show x.length + sep.length + sizeL sep r ≤ (r.length + 1) * _
    rw [Nat.succ_mul]
    omega
theorem joinL_le {sep : List Nat} : ∀ l : List (List Nat), (joinL sep l).length ≤ sizeL sep l
  | [] => Nat.le_refl _
  | [x] => by show x.length ≤ x.length + sep.length + 0; omega
  | x :: y :: r => by
    have := joinL_le (sep := sep) (y :: r)
    show (x ++ sep ++ joinL sep (y :: r)).length ≤ x.length + sep.length + sizeL sep (y :: r)
    simp
    omega
theorem join_sep {α : Type} {f : α → List Nat} {sep : List Nat} {l : List α} (h : sizeL sep (l.map f) ≤ line) : opJoin (.str sep) (.lst (l.map fun c => .str (f c))) = some (.fz (.str (joinL sep (l.map f)))) := by
  show ((strsOf (l.map fun c => .str (f c))).bind fun l => if sizeL sep l ≤ line then some (O.fz (.str (joinL sep l))) else none) = _
  rw [strs_of]
  show (if sizeL sep (l.map f) ≤ line then _ else _) = _
  rw [if_pos h]
theorem par_itemI (b : Bool) {x : List Nat} : itemD (.lst [.str (40 :: (x ++ [41])), .str x]) (.int (if b = true then 1 else 0)) = some (.str (par b x)) := by
  cases b
  · exact y_item0 _ _
  · exact y_item1 _ _ _
theorem sub_starI (b : Bool) : opSub (dN 2) (.int (if b = true then 1 else 0)) = some (.fz (dN (if b = true then 1 else 2))) := by cases b <;> rfl
theorem tag0 (t : Tr) : itemD (dTr t) (dN 0) = some (.str (match t with | .any => [97, 110, 121] | .ltr _ => [108, 101, 116, 116, 101, 114] | .star _ _ => [115, 116, 97, 114] | .row _ => [114, 111, 119] | .alt _ => [111, 114])) := by
  cases t <;> (rw [dTr]; exact y_item0 _ _)
theorem tag_star (t : Tr) : ((match t with | .any => [97, 110, 121] | .ltr _ => [108, 101, 116, 116, 101, 114] | .star _ _ => [115, 116, 97, 114] | .row _ => [114, 111, 119] | .alt _ => [111, 114]) == ([115, 116, 97, 114] : List Nat)) = isStar t := by
  cases t <;> rfl
theorem text_ok {al : List Nat} : ∀ (d f : Nat), d < f → LB d ≤ 100000 → ∀ t, TrOk al d t → ∀ l, l ≤ 2 → (txM t l).length ≤ LB d ∧ sem_law_text_of f [.fz (dTr t), .fz (dN l)] = .ok (.fz (.str (txM t l))) [] := by
  have n1 : ([108, 101, 116, 116, 101, 114] == ([97, 110, 121] : List Nat)) = false := by decide
  have n2 : ([115, 116, 97, 114] == ([97, 110, 121] : List Nat)) = false := by decide
  have n3 : ([114, 111, 119] == ([97, 110, 121] : List Nat)) = false := by decide
  have n4 : ([111, 114] == ([97, 110, 121] : List Nat)) = false := by decide
  have n5 : ([115, 116, 97, 114] == ([108, 101, 116, 116, 101, 114] : List Nat)) = false := by decide
  have n6 : ([114, 111, 119] == ([108, 101, 116, 116, 101, 114] : List Nat)) = false := by decide
  have n7 : ([111, 114] == ([108, 101, 116, 116, 101, 114] : List Nat)) = false := by decide
  have n8 : ([114, 111, 119] == ([115, 116, 97, 114] : List Nat)) = false := by decide
  have n9 : ([111, 114] == ([115, 116, 97, 114] : List Nat)) = false := by decide
  have na : ([111, 114] == ([114, 111, 119] : List Nat)) = false := by decide
  have e1 : ([97, 110, 121] == ([97, 110, 121] : List Nat)) = true := by decide
  have e2 : ([108, 101, 116, 116, 101, 114] == ([108, 101, 116, 116, 101, 114] : List Nat)) = true := by decide
  have e3 : ([115, 116, 97, 114] == ([115, 116, 97, 114] : List Nat)) = true := by decide
  have e4 : ([114, 111, 119] == ([114, 111, 119] : List Nat)) = true := by decide
  intro d
  induction d with
  | zero =>
    intro f hf hB t ht l hl
    obtain ⟨g, rfl⟩ : ∃ g, f = g + 1 := ⟨f - 1, by omega⟩
    cases t with
    | any =>
      rw [txM, dTr]
      refine ⟨by decide, ?_⟩
      unfold sem_law_text_of body_law_text_of
      simp_arith [e1]
    | ltr c =>
      rw [txM, dTr]
      refine ⟨by show 1 ≤ 2; decide, ?_⟩
      unfold sem_law_text_of body_law_text_of
      simp_arith [n1, e2]
    | star k t => exact ht.elim
    | row ts =>
      have ht : ts = [] := ht
      subst ht
      rw [txM, dTr, dTrs_map, txMs_map]
      refine ⟨par_len _ _, ?_⟩
      unfold sem_law_text_of body_law_text_of
      have hc := comp_of (r := eComp [3] (.nm 3) (iE (eP (pIx (pV 0) (pC (dN 1))))) tT (eCall (sem_law_text_of g) [.v (eP (pV 3)), .v (eC (dN 1))]) [some (.fz (.lst [.str [114, 111, 119], .lst []])), some (.fz (dN l)), none, none]) rfl (l := ([] : List Tr)) dTr (fun t => .fz (.str (txM t 1))) (by simp_arith []) rfl (by simp) (fun a h => by cases h)
      have hj : opJoin (.str []) (.lst []) = some (.fz (.str [])) := by rfl
      have hp := par_itemI (decide (l = 0)) (x := [])
      have z2 : opAdd (.str [40]) (.str []) = some (.fz (.str [40])) := by rfl
      have z3 : opAdd (.str [40]) (.str [41]) = some (.fz (.str [40, 41])) := by rfl
      rw [List.nil_append] at hp
      simp_arith [n3, n6, n8, e4, hc, hj, List.flatten_nil, z2, z3, hp]
    | alt ts => exact ht.elim
  | succ d ih =>
    intro f hf hB t ht l hl
    obtain ⟨g, rfl⟩ : ∃ g, f = g + 1 := ⟨f - 1, by omega⟩
    have hB1 : LB (d + 1) = 3 * LB d + 6 := rfl
    have ih := ih g (by omega) (by omega)
    have hpos := LB_pos d
    cases t with
    | any =>
      rw [txM, dTr]
      refine ⟨by rw [hB1]; simp, ?_⟩
      unfold sem_law_text_of body_law_text_of
      simp_arith [e1]
    | ltr c =>
      rw [txM, dTr]
      refine ⟨by rw [hB1]; simp, ?_⟩
      unfold sem_law_text_of body_law_text_of
      simp_arith [n1, e2]
    | star k t =>
      obtain ⟨b1, b2⟩ := ih t ht.2 (if isStar t = true then 1 else 2) (by split <;> omega)
      rw [txM, dTr]
      have hx : (txM t (if isStar t = true then 1 else 2) ++ [k]).length ≤ LB d + 1 := by simp; exact b1
      generalize txM t (if isStar t = true then 1 else 2) = x at *
      refine ⟨by have := par_len (decide (l < 2)) (x ++ [k]); omega, ?_⟩
      unfold sem_law_text_of body_law_text_of
      have z1 : opAdd (.str x) (.str [k]) = some (.fz (.str (x ++ [k]))) := add_str (by unfold line; simp at hx ⊢; omega)
      have z2 : opAdd (.str [40]) (.str (x ++ [k])) = some (.fz (.str ([40] ++ (x ++ [k])))) := add_str (by unfold line; simp at hx ⊢; omega)
      have z3 : opAdd (.str ([40] ++ (x ++ [k]))) (.str [41]) = some (.fz (.str ([40] ++ (x ++ [k]) ++ [41]))) := add_str (by unfold line; simp at hx ⊢; omega)
      have hp := par_itemI (decide (l < 2)) (x := x ++ [k])
      simp only [List.cons_append, List.nil_append] at z2 z3
      simp_arith [n2, n5, e3, tag0, tag_star, sub_starI, b2, z1, z2, z3, hp]
    | row ts =>
      obtain ⟨h3, hts⟩ := ht
      rw [txM, dTr, dTrs_map, txMs_map]
      have hlen : ∀ y ∈ ts.map fun t => txM t 1, y.length ≤ LB d := fun y hy => by
        obtain ⟨t, h, rfl⟩ := List.mem_map.mp hy
        exact (ih t (hts t h) 1 (by decide)).1
      have hflat : (ts.map fun t => txM t 1).flatten.length ≤ 3 * LB d := by
        rw [← sizeL_nil]
        have := sizeL_le (sep := []) hlen
        rw [List.length_map] at this
        exact Nat.le_trans this (by simpa using Nat.mul_le_mul_right (LB d) h3)
      have hj : opJoin (.str []) (.lst (ts.map fun t => .str (txM t 1))) = some (.fz (.str (ts.map fun t => txM t 1).flatten)) := join_of (by unfold line; omega)
      unfold sem_law_text_of body_law_text_of
      have hc := comp_of (r := eComp [3] (.nm 3) (iE (eP (pIx (pV 0) (pC (dN 1))))) tT (eCall (sem_law_text_of g) [.v (eP (pV 3)), .v (eC (dN 1))]) [some (.fz (.lst [.str [114, 111, 119], .lst (ts.map dTr)])), some (.fz (dN l)), none, none]) rfl (l := ts) dTr (fun t => .fz (.str (txM t 1))) (by simp_arith []) rfl (by unfold line; omega) (fun t h => by
        refine ⟨[some (.fz (.lst [.str [114, 111, 119], .lst (ts.map dTr)])), some (.fz (dN l)), none, some (.fz (dTr t))], rfl, ?_, rfl⟩
        simp_arith [(ih t (hts t h) 1 (by decide)).2])
      have hp := par_itemI (decide (l = 0)) (x := (ts.map fun t => txM t 1).flatten)
      have z2 : opAdd (.str [40]) (.str (ts.map fun t => txM t 1).flatten) = some (.fz (.str ([40] ++ (ts.map fun t => txM t 1).flatten))) := add_str (by unfold line; simp only [List.length_cons, List.length_nil]; omega)
      have z3 : opAdd (.str ([40] ++ (ts.map fun t => txM t 1).flatten)) (.str [41]) = some (.fz (.str ([40] ++ (ts.map fun t => txM t 1).flatten ++ [41]))) := add_str (by unfold line; simp only [List.length_append, List.length_cons, List.length_nil]; omega)
      refine ⟨by have := par_len (decide (l = 0)) (ts.map fun t => txM t 1).flatten; omega, ?_⟩
      have hj' : opJoin (.str []) (.lst (frs (ts.map fun t => O.fz (.str (txM t 1))))) = some (.fz (.str (ts.map fun t => txM t 1).flatten)) := by rw [y_frsfz]; exact hj
      generalize (ts.map fun t => txM t 1).flatten = x at *
      simp only [List.cons_append, List.nil_append] at z2 z3
      simp_arith [n3, n6, n8, e4, hc, hj, z2, z3, hp]
    | alt ts =>
      obtain ⟨⟨h1, h3⟩, hts⟩ := ht
      rw [txM, dTr, dTrs_map, txMs_map]
      have hlen : ∀ y ∈ ts.map fun t => txM t 0, y.length ≤ LB d := fun y hy => by
        obtain ⟨t, h, rfl⟩ := List.mem_map.mp hy
        exact (ih t (hts t h) 0 (by decide)).1
      have hsz : sizeL [124] (ts.map fun t => txM t 0) ≤ 3 * (LB d + 1) := by
        have := sizeL_le (sep := [124]) hlen
        rw [List.length_map] at this
        exact Nat.le_trans this (Nat.mul_le_mul_right (LB d + 1) h3)
      have hjl := joinL_le (sep := [124]) (ts.map fun t => txM t 0)
      have hj : opJoin (.str [124]) (.lst (ts.map fun t => .str (txM t 0))) = some (.fz (.str (joinL [124] (ts.map fun t => txM t 0)))) := join_sep (by unfold line; omega)
      unfold sem_law_text_of body_law_text_of
      have hc := comp_of (r := eComp [3] (.nm 3) (iE (eP (pIx (pV 0) (pC (dN 1))))) tT (eCall (sem_law_text_of g) [.v (eP (pV 3)), .v (eC (dN 0))]) [some (.fz (.lst [.str [111, 114], .lst (ts.map dTr)])), some (.fz (dN l)), none, none]) rfl (l := ts) dTr (fun t => .fz (.str (txM t 0))) (by simp_arith []) rfl (by unfold line; omega) (fun t h => by
        refine ⟨[some (.fz (.lst [.str [111, 114], .lst (ts.map dTr)])), some (.fz (dN l)), none, some (.fz (dTr t))], rfl, ?_, rfl⟩
        simp_arith [(ih t (hts t h) 0 (by decide)).2])
      have hp := par_itemI (decide (l = 0) && decide (1 < ts.length)) (x := joinL [124] (ts.map fun t => txM t 0))
      have z2 : opAdd (.str [40]) (.str (joinL [124] (ts.map fun t => txM t 0))) = some (.fz (.str ([40] ++ joinL [124] (ts.map fun t => txM t 0)))) := add_str (by unfold line; simp only [List.length_cons, List.length_nil]; omega)
      have z3 : opAdd (.str ([40] ++ joinL [124] (ts.map fun t => txM t 0))) (.str [41]) = some (.fz (.str ([40] ++ joinL [124] (ts.map fun t => txM t 0) ++ [41]))) := add_str (by unfold line; simp only [List.length_append, List.length_cons, List.length_nil]; omega)
      refine ⟨by have := par_len (decide (l = 0) && decide (1 < ts.length)) (joinL [124] (ts.map fun t => txM t 0)); omega, ?_⟩
      generalize joinL [124] (ts.map fun t => txM t 0) = x at *
      simp only [List.cons_append, List.nil_append] at z2 z3
      by_cases hl0 : l = 0
      · subst hl0
        rw [decide_eq_true rfl, Bool.true_and] at hp ⊢
        simp_arith [n4, n7, n9, na, hc, hj, z2, z3, hp, y_len_map, decide_true]
      · rw [decide_eq_false hl0, Bool.false_and] at hp ⊢
        simp_arith [n4, n7, n9, na, hc, hj, z2, z3, hp, decide_eq_false hl0]
        rfl
mutual
def Lg (al : List Nat) : Tr → Lng
  | .any => fun w => ∃ k, w = [k]
  | .ltr c => fun w => w = [ix al c]
  | .star k t => starL k (Lg al t)
  | .row ts => LgC al ts
  | .alt ts => LgA al ts
def LgC (al : List Nat) : List Tr → Lng
  | [] => fun w => w = []
  | t :: r => fun w => ∃ u v, w = u ++ v ∧ Lg al t u ∧ LgC al r v
def LgA (al : List Nat) : List Tr → Lng
  | [] => fun _ => False
  | t :: r => fun w => Lg al t w ∨ LgA al r w
end
theorem LgC_cat (al : List Nat) : ∀ (ts : List Tr) (w : List Nat), CatL (ts.map (Lg al)) w ↔ LgC al ts w
  | [], w => by rw [LgC]; exact Iff.rfl
  | t :: r, w => by
    rw [LgC]
    show (∃ u v, w = u ++ v ∧ Lg al t u ∧ CatL (r.map (Lg al)) v) ↔ _
    constructor
    · rintro ⟨u, v, e, h1, h2⟩; exact ⟨u, v, e, h1, (LgC_cat al r v).mp h2⟩
    · rintro ⟨u, v, e, h1, h2⟩; exact ⟨u, v, e, h1, (LgC_cat al r v).mpr h2⟩
theorem AnyL.app {A B : List Lng} {w : List Nat} : AnyL (A ++ B) w ↔ AnyL A w ∨ AnyL B w := by
  constructor
  · rintro ⟨L, h, hw⟩
    rcases List.mem_append.mp h with h | h
    · exact .inl ⟨L, h, hw⟩
    · exact .inr ⟨L, h, hw⟩
  · rintro (⟨L, h, hw⟩ | ⟨L, h, hw⟩)
    · exact ⟨L, List.mem_append_left _ h, hw⟩
    · exact ⟨L, List.mem_append_right _ h, hw⟩
def rnM (al : List Nat) : List Nat → ScM → Option ScM
  | [], s => some s
  | c :: r, s => if (tkM al (bmp s) c).1 = true then rnM al r (tkM al (bmp s) c).2 else none
theorem rnM_app (al : List Nat) : ∀ (x y : List Nat) (s : ScM), rnM al (x ++ y) s = (rnM al x s).bind (rnM al y)
  | [], y, s => rfl
  | c :: r, y, s => by
    show (if _ then rnM al (r ++ y) _ else none) = ((if _ then rnM al r _ else none) : Option ScM).bind _
    split
    · exact rnM_app al r y _
    · rfl
theorem rnM_ok {al : List Nat} : ∀ {x : List Nat} {s s' : ScM} {n : Nat}, ScOk n s → rnM al x s = some s' → ∃ m, ScOk m s' ∧ s'.signs = s.signs + x.length
  | [], s, s', n, h, e => by cases e; exact ⟨n, h, rfl⟩
  | c :: r, s, s', n, h, e => by
    have e : (if (tkM al (bmp s) c).1 = true then rnM al r (tkM al (bmp s) c).2 else none) = some s' := e
    split at e
    · rename_i ht
      obtain ⟨m, _, hm, hs⟩ := take_inv al h c ht
      obtain ⟨m', hm', hs'⟩ := rnM_ok hm e
      exact ⟨m', hm', by rw [hs', hs, List.length_cons]; omega⟩
    · cases e
theorem scM_rn {al stops : List Nat} : ∀ {x : List Nat} {y : List Nat} {k n : Nat} {s s' : ScM}, ScOk n s → rnM al x s = some s' → s.signs + x.length ≤ 12 → (∀ c ∈ x, c ∉ stops) → scM al stops (x ++ y) k s = scM al stops y (k + x.length) s'
  | [], y, k, n, s, s', h, e, _, _ => by cases e; rfl
  | c :: r, y, k, n, s, s', h, e, hs, hc => by
    have e : (if (tkM al (bmp s) c).1 = true then rnM al r (tkM al (bmp s) c).2 else none) = some s' := e
    split at e
    · rename_i ht
      obtain ⟨m, _, hm, hg⟩ := take_inv al h c ht
      rw [List.length_cons] at hs
      rw [List.cons_append, scM_cons, if_neg (fun z => hc c (List.mem_cons_self ..) z.2), if_neg (by omega), if_pos ht, scM_rn hm e (by omega) (fun d hd => hc d (List.mem_cons_of_mem _ hd)), List.length_cons]
      congr 1
      omega
    · cases e
/-- no letter is a sign -/
def NoSig (al : List Nat) : Prop := ∀ c ∈ al, c ≠ 40 ∧ c ≠ 41 ∧ c ≠ 42 ∧ c ≠ 43 ∧ c ≠ 46 ∧ c ≠ 63 ∧ c ≠ 124
theorem tk_open (al : List Nat) (s : ScM) : tkM al s 40 = (true, { s with up := s.tp :: s.up, tp := ([], []), star := false }) := by rfl
theorem tk_bar (al : List Nat) (s : ScM) : tkM al s 124 = (true, { s with tp := (s.tp.1 ++ [s.tp.2], []), star := false }) := by rfl
theorem tk_close (al : List Nat) {s : ScM} {f : FrM} {up : List FrM} (h : s.up = f :: up) : tkM al s 41 = (true, { s with fol := (choF s.fol s.tp).1, up := up, tp := (f.1, f.2 ++ [(choF s.fol s.tp).2]), star := true }) := by
  unfold tkM
  rw [if_neg (by decide), if_neg (by decide), if_pos rfl, h]
theorem tk_any (al : List Nat) (s : ScM) : tkM al s 46 = (true, { s with marks := s.marks ++ [none], fol := s.fol ++ [[]], tp := (s.tp.1, s.tp.2 ++ [⟨false, [s.marks.length + 1], [s.marks.length + 1]⟩]), star := true }) := by rfl
theorem tk_ltr {al : List Nat} {c : Nat} (h : c ∈ al) (hn : NoSig al) (s : ScM) : tkM al s c = (true, { s with marks := s.marks ++ [some (ix al c)], fol := s.fol ++ [[]], tp := (s.tp.1, s.tp.2 ++ [⟨false, [s.marks.length + 1], [s.marks.length + 1]⟩]), star := true }) := by
  obtain ⟨h1, h2, h3, h4, h5, h6, h7⟩ := hn c h
  unfold tkM
  rw [if_neg (by omega), if_neg h1, if_neg h2, if_neg h7, if_pos (.inr h), if_neg h5, (findN_some h).1]
theorem tk_sign (al : List Nat) {s : ScM} {k : Nat} {cu : List PtM} {P : PtM} (hk : k = 42 ∨ k = 43 ∨ k = 63) (hs : s.star = true) (hc : s.tp.2 = cu ++ [P]) :
    tkM al s k = (true, { s with fol := if k = 63 then s.fol else jnM s.fol P.lst P.fst, tp := (s.tp.1, cu ++ [⟨P.nul || !decide (k = 43), P.fst, P.lst⟩]) }) := by
  unfold tkM
  rw [if_pos hk, if_pos hs]
  have hl : s.tp.2.getLast? = some P := by rw [hc]; simp
  have hd : s.tp.2.dropLast = cu := by rw [hc]; simp
  rw [hl, hd]
/-- what a scan leaves: what was there stands -/
structure Grw (n : Nat) (s s' : ScM) : Prop where
  ok : ∃ m, ScOk m s'
  up : s'.up = s.up
  mks : ∃ mk, s'.marks = s.marks ++ mk
  fo : ∀ p, 1 ≤ p → p ≤ n → foA s'.fol p = foA s.fol p
theorem mkA_app {M mk : List (Option Nat)} {p : Nat} (h1 : 1 ≤ p) (h : p ≤ M.length) : mkA (M ++ mk) p = mkA M p := by
  unfold mkA
  rw [List.getD_eq_getElem?_getD, List.getElem?_append_left (by omega), ← List.getD_eq_getElem?_getD]
theorem Grw.same {n m a : Nat} {s s' : ScM} (h : Grw n s s') (hm : ScOk n s) (hb : m ≤ n) : SameIn a m s.marks s'.marks s.fol s'.fol := fun p hp => by
  have h1 : 1 ≤ p := by have := hp.1; omega
  have h2 : p ≤ n := Nat.le_trans hp.2 hb
  obtain ⟨mk, e⟩ := h.mks
  exact ⟨by rw [e]; exact mkA_app h1 (by rw [hm.mks]; exact h2), h.fo p h1 h2⟩
theorem ScOk.len {n m : Nat} {s : ScM} (h : ScOk n s) (h' : ScOk m s) : n = m := by rw [← h.mks, h'.mks]
theorem Grw.trans {n m : Nat} {s s' s'' : ScM} (h : Grw n s s') (hm : ScOk m s') (hn : ScOk n s) (h' : Grw m s' s'') : Grw n s s'' := by
  obtain ⟨mk, e⟩ := h.mks
  obtain ⟨mk', e'⟩ := h'.mks
  have hle : n ≤ m := by
    rw [← hm.mks, e, List.length_append, hn.mks]; omega
  exact ⟨h'.ok, h'.up.trans h.up, ⟨mk ++ mk', by rw [e', e, List.append_assoc]⟩, fun p h1 h2 => (h'.fo p h1 (Nat.le_trans h2 hle)).trans (h.fo p h1 h2)⟩
theorem Grw.le {n m : Nat} {s s' : ScM} (h : Grw n s s') (hn : ScOk n s) (hm : ScOk m s') : n ≤ m := by
  obtain ⟨mk, e⟩ := h.mks
  rw [← hm.mks, e, List.length_append, hn.mks]; omega
/-- a text that gives one part -/
def ScanE (al : List Nat) (L : Lng) (x : List Nat) : Prop := ∀ (s : ScM) (n : Nat), ScOk n s → s.signs + x.length ≤ 12 → ∃ s' P m, rnM al x s = some s' ∧ Grw n s s' ∧ ScOk m s' ∧ s'.tp = (s.tp.1, s.tp.2 ++ [P]) ∧ s'.star = true ∧ Cl n m s'.fol P ∧ PtOk m P ∧ ∀ w, PL s'.marks s'.fol P w ↔ L w
/-- .. parts -/
def ScanC (al : List Nat) (Ls : List Lng) (x : List Nat) : Prop := ∀ (s : ScM) (n : Nat), ScOk n s → s.signs + x.length ≤ 12 → ∃ s' b m, rnM al x s = some s' ∧ Grw n s s' ∧ ScOk m s' ∧ s'.tp = (s.tp.1, s.tp.2 ++ b) ∧ Ps s'.marks s'.fol m n m b Ls
/-- .. branches -/
def ScanB (al : List Nat) (L : Lng) (x : List Nat) : Prop := ∀ (s : ScM) (n : Nat), ScOk n s → s.tp.2 = [] → s.signs + x.length ≤ 12 → ∃ s' bs b LL m, rnM al x s = some s' ∧ Grw n s s' ∧ ScOk m s' ∧ s'.tp = (s.tp.1 ++ bs, b) ∧ Brs s'.marks s'.fol m n m (bs ++ [b]) LL ∧ ∀ w, AnyL LL w ↔ L w
theorem ScOk.n12 {n : Nat} {s : ScM} (h : ScOk n s) (hs : s.signs ≤ 12) : n ≤ 12 := Nat.le_trans h.sg.1 hs
theorem foA_app1 {F : List (List Nat)} {p : Nat} (h1 : 1 ≤ p) (h : p ≤ F.length) : foA (F ++ [[]]) p = foA F p := by
  unfold foA
  rw [List.getD_eq_getElem?_getD, List.getElem?_append_left (by omega), ← List.getD_eq_getElem?_getD]
theorem foA_new (F : List (List Nat)) : foA (F ++ [[]]) (F.length + 1) = [] := by
  unfold foA
  simp
theorem mkA_new (M : List (Option Nat)) (m : Option Nat) : mkA (M ++ [m]) (M.length + 1) = m := by
  unfold mkA
  simp
theorem scan_place {al : List Nat} {c : Nat} {mk : Option Nat} (ht : ∀ s : ScM, tkM al s c = (true, { s with marks := s.marks ++ [mk], fol := s.fol ++ [[]], tp := (s.tp.1, s.tp.2 ++ [⟨false, [s.marks.length + 1], [s.marks.length + 1]⟩]), star := true })) : ScanE al (fun w => ∃ k, w = [k] ∧ fit mk k) [c] := by
  intro s n h hs
  have e := ht (bmp s)
  have h1 : (tkM al (bmp s) c).1 = true := by rw [e]
  obtain ⟨m, _, hm, hg⟩ := take_inv al h c h1
  have em : m = n + 1 := by
    rw [← hm.mks, e]
    show (s.marks ++ [mk]).length = n + 1
    simp [h.mks]
  subst em
  refine ⟨(tkM al (bmp s) c).2, ⟨false, [n + 1], [n + 1]⟩, n + 1, by show (if _ then some _ else none) = _; rw [if_pos h1], ⟨⟨_, hm⟩, by rw [e]; rfl, ⟨[mk], by rw [e]; rfl⟩, fun p p1 p2 => ?_⟩, hm, by rw [e]; show (s.tp.1, s.tp.2 ++ [⟨false, [s.marks.length + 1], [s.marks.length + 1]⟩]) = _; rw [h.mks], by rw [e], ?_⟩
  · rw [e]
    exact foA_app1 p1 (by rw [show (bmp s).fol.length = n from h.fol.1]; exact p2)
  · have hf : foA (tkM al (bmp s) c).2.fol (n + 1) = [] := by
      rw [e]
      have := foA_new s.fol
      rw [h.fol.1] at this
      exact this
    have hmk : mkA (tkM al (bmp s) c).2.marks (n + 1) = mk := by
      rw [e]
      have := mkA_new s.marks mk
      rw [h.mks] at this
      exact this
    obtain ⟨q1, q2⟩ := one_lang (M := (tkM al (bmp s) c).2.marks) hf
    have : PlOk (n + 1) [n + 1] := ⟨fun x hx => by rw [List.mem_singleton.mp hx]; omega, by simp⟩
    exact ⟨q1, ⟨this, this⟩, fun w => by rw [q2, hmk]⟩
theorem ScanE.imp {al : List Nat} {L K : Lng} {x : List Nat} (h : ScanE al L x) (hk : ∀ w, L w ↔ K w) : ScanE al K x := fun s n hs hl => by
  obtain ⟨s', P, m, a1, a2, a3, a4, a5, a6, a7, a8⟩ := h s n hs hl
  exact ⟨s', P, m, a1, a2, a3, a4, a5, a6, a7, fun w => (a8 w).trans (hk w)⟩
theorem ScanB.imp {al : List Nat} {L K : Lng} {x : List Nat} (h : ScanB al L x) (hk : ∀ w, L w ↔ K w) : ScanB al K x := fun s n hs h0 hl => by
  obtain ⟨s', bs, b, LL, m, a1, a2, a3, a4, a5, a6⟩ := h s n hs h0 hl
  exact ⟨s', bs, b, LL, m, a1, a2, a3, a4, a5, fun w => (a6 w).trans (hk w)⟩
/-- a sign behind a part -/
theorem scan_sign {al : List Nat} {k : Nat} {L : Lng} {x : List Nat} (hk : k = 42 ∨ k = 43 ∨ k = 63) (h : ScanE al L x) : ScanE al (starL k L) (x ++ [k]) := by
  intro s n hs hl
  rw [List.length_append, List.length_singleton] at hl
  obtain ⟨s1, P, m, a1, a2, a3, a4, a5, a6, a7, a8⟩ := h s n hs (by omega)
  obtain ⟨_, _, sg⟩ := rnM_ok hs a1
  have hc : s1.tp.2 = s.tp.2 ++ [P] := by rw [a4]
  have e := tk_sign al (s := bmp s1) hk a5 hc
  have h1 : (tkM al (bmp s1) k).1 = true := by rw [e]
  obtain ⟨m', _, hm, hg⟩ := take_inv al a3 k h1
  have em : m' = m := by
    rw [← hm.mks, e]
    exact a3.mks
  subst em
  have hn : m' ≤ 12 := a3.n12 (by omega)
  obtain ⟨q1, q2, q3⟩ := signs_lang (M := s1.marks) hk hn a3.fol a7 a6 a8
  refine ⟨(tkM al (bmp s1) k).2, ⟨P.nul || !decide (k = 43), P.fst, P.lst⟩, m', ?_, ⟨⟨_, hm⟩, by rw [e]; exact a2.up, ?_, fun p p1 p2 => ?_⟩, hm, by rw [e]; show (s1.tp.1, _) = _; rw [a4], by rw [e]; exact a5, by rw [e]; exact q1, a7, fun w => by rw [e]; exact q2 w⟩
  · rw [rnM_app, a1]
    show (if _ then some _ else none) = _
    rw [if_pos h1]
  · obtain ⟨mk, em⟩ := a2.mks
    exact ⟨mk, by rw [e]; exact em⟩
  · rw [e]
    exact (q3 p p1 fun z => by have := z.1; omega).trans (a2.fo p p1 p2)
theorem ScanC.cons {al : List Nat} {L : Lng} {Ls : List Lng} {x y : List Nat} (h : ScanE al L x) (h' : ScanC al Ls y) : ScanC al (L :: Ls) (x ++ y) := by
  intro s n hs hl
  rw [List.length_append] at hl
  obtain ⟨s1, P, m, a1, a2, a3, a4, a5, a6, a7, a8⟩ := h s n hs (by omega)
  obtain ⟨_, _, sg⟩ := rnM_ok hs a1
  obtain ⟨s2, b, m2, b1, b2, b3, b4, b5⟩ := h' s1 m a3 (by omega)
  have hle := b2.le a3 b3
  have sm : SameIn n m s1.marks s2.marks s1.fol s2.fol := b2.same a3 (Nat.le_refl _)
  exact ⟨s2, P :: b, m2, by rw [rnM_app, a1]; exact b1, a2.trans a3 hs b2, b3, by rw [b4, a4, List.append_assoc]; rfl, .cons (a6.same sm) (a7.mono hle) (fun w => (PL.same a6 sm w).trans (a8 w)) b5⟩
theorem ScanC.nil (al : List Nat) : ScanC al [] [] := fun s n hs _ => ⟨s, [], n, rfl, ⟨⟨n, hs⟩, rfl, ⟨[], (List.append_nil _).symm⟩, fun _ _ _ => rfl⟩, hs, by rw [List.append_nil], .nil n⟩
theorem ScanB.ofC {al : List Nat} {L : Lng} {Ls : List Lng} {x : List Nat} (h : ScanC al Ls x) (hL : ∀ w, CatL Ls w ↔ L w) : ScanB al L x := by
  intro s n hs h0 hl
  obtain ⟨s', b, m, a1, a2, a3, a4, a5⟩ := h s n hs hl
  refine ⟨s', [], b, [L], m, a1, a2, a3, by rw [a4, h0]; simp, .cons a5 hL (.nil m), fun w => ?_⟩
  constructor
  · rintro ⟨K, hK, h⟩
    rw [List.mem_singleton.mp hK] at h; exact h
  · intro h; exact ⟨L, List.mem_singleton.mpr rfl, h⟩
theorem ScanB.bar {al : List Nat} {L K : Lng} {x y : List Nat} (h : ScanB al L x) (h' : ScanB al K y) : ScanB al (fun w => L w ∨ K w) (x ++ [124] ++ y) := by
  intro s n hs h0 hl
  rw [List.length_append, List.length_append, List.length_singleton] at hl
  obtain ⟨s1, bs, b, LL, m, a1, a2, a3, a4, a5, a6⟩ := h s n hs h0 (by omega)
  obtain ⟨_, _, sg⟩ := rnM_ok hs a1
  have e := tk_bar al (bmp s1)
  have h1 : (tkM al (bmp s1) 124).1 = true := by rw [e]
  obtain ⟨m1, _, hm, hg⟩ := take_inv al a3 124 h1
  have em : m1 = m := by
    rw [← hm.mks, e]
    exact a3.mks
  subst em
  obtain ⟨s2, bs', b', LL', m2, b1, b2, b3, b4, b5, b6⟩ := h' (tkM al (bmp s1) 124).2 m1 hm (by rw [e]) (by omega)
  have hle := b2.le hm b3
  have sm : SameIn n m1 (tkM al (bmp s1) 124).2.marks s2.marks (tkM al (bmp s1) 124).2.fol s2.fol := b2.same hm (Nat.le_refl _)
  have a5' : Brs (tkM al (bmp s1) 124).2.marks (tkM al (bmp s1) 124).2.fol m1 n m1 (bs ++ [b]) LL := by rw [e]; exact a5
  refine ⟨s2, bs ++ [b] ++ bs', b', LL ++ LL', m2, ?_, ?_, b3, ?_, ?_, fun w => ?_⟩
  · have q : rnM al [124] s1 = some (tkM al (bmp s1) 124).2 := by
      show (if (tkM al (bmp s1) 124).1 = true then some (tkM al (bmp s1) 124).2 else none) = _
      rw [if_pos h1]
    rw [rnM_app, rnM_app, a1]
    show ((rnM al [124] s1).bind (rnM al y)) = _
    rw [q]
    exact b1
  · have g1 : Grw n s (tkM al (bmp s1) 124).2 := ⟨⟨_, hm⟩, by rw [e]; exact a2.up, by obtain ⟨mk, q⟩ := a2.mks; exact ⟨mk, by rw [e]; exact q⟩, fun p p1 p2 => by rw [e]; exact a2.fo p p1 p2⟩
    exact g1.trans hm hs b2
  · rw [b4, e]
    show (s1.tp.1 ++ [s1.tp.2] ++ bs', b') = _
    rw [a4]
    simp
  · rw [List.append_assoc]
    exact (a5'.same sm hle).app b5
  · rw [AnyL.app, a6, b6]
/-- what stands in parentheses -/
theorem scan_par {al : List Nat} {L : Lng} {x : List Nat} (h : ScanB al L x) : ScanE al L ([40] ++ x ++ [41]) := by
  intro s n hs hl
  rw [List.length_append, List.length_append, List.length_singleton, List.length_singleton] at hl
  have e := tk_open al (bmp s)
  have h1 : (tkM al (bmp s) 40).1 = true := by rw [e]
  obtain ⟨m0, _, hm0, hg0⟩ := take_inv al hs 40 h1
  have em : m0 = n := by
    rw [← hm0.mks, e]
    exact hs.mks
  subst em
  obtain ⟨s1, bs, b, LL, m, a1, a2, a3, a4, a5, a6⟩ := h (tkM al (bmp s) 40).2 m0 hm0 (by rw [e]) (by omega)
  obtain ⟨_, _, sg⟩ := rnM_ok hm0 a1
  have hup : (bmp s1).up = s.tp :: s.up := by
    show s1.up = _
    rw [a2.up, e]; rfl
  have e2 := tk_close al hup
  have h2 : (tkM al (bmp s1) 41).1 = true := by rw [e2]
  obtain ⟨m2, _, hm2, hg2⟩ := take_inv al a3 41 h2
  have em2 : m2 = m := by
    rw [← hm2.mks, e2]
    exact a3.mks
  subst em2
  have hn : m2 ≤ 12 := a3.n12 (by omega)
  have htp : s1.tp = (bs, b) := by
    rw [a4, e]; rfl
  obtain ⟨q1, q2, q3, q4, q5⟩ := choF_lang hn (M := s1.marks) (f := s1.tp) (LL := LL) a3.fol (by rw [htp]; exact a5)
  refine ⟨(tkM al (bmp s1) 41).2, (choF s1.fol s1.tp).2, m2, ?_, ⟨⟨_, hm2⟩, by rw [e2], ?_, fun p p1 p2 => ?_⟩, hm2, by rw [e2]; rfl, by rw [e2], by rw [e2]; exact q3, q2, fun w => by rw [e2]; exact (q4 w).trans (a6 w)⟩
  · rw [rnM_app, rnM_app]
    show (((if _ then some _ else none) : Option ScM).bind _).bind _ = _
    rw [if_pos h1]
    show ((rnM al x _)).bind _ = _
    rw [a1]
    show (if _ then some _ else none) = _
    rw [if_pos h2]
  · obtain ⟨mk, q⟩ := a2.mks
    refine ⟨mk, ?_⟩
    rw [e2]
    show s1.marks = _
    rw [q, e]; rfl
  · rw [e2]
    show foA (choF s1.fol s1.tp).1 p = _
    rw [q5 p p1 fun z => by have := z.1; omega, a2.fo p p1 p2, e]; rfl
theorem joinL_cons (sep x y : List Nat) (r : List (List Nat)) : joinL sep (x :: y :: r) = x ++ sep ++ joinL sep (y :: r) := by rfl
theorem scan_row {al : List Nat} : ∀ {ts : List Tr}, (∀ t ∈ ts, ScanE al (Lg al t) (txM t 1)) → ScanC al (ts.map (Lg al)) (ts.map fun t => txM t 1).flatten
  | [], _ => ScanC.nil al
  | t :: r, h => by
    rw [List.map_cons, List.map_cons, List.flatten_cons]
    exact ScanC.cons (h t (List.mem_cons_self ..)) (scan_row fun x hx => h x (List.mem_cons_of_mem _ hx))
theorem scan_alt {al : List Nat} : ∀ {r : List Tr} {t : Tr}, (∀ x ∈ t :: r, ScanB al (Lg al x) (txM x 0)) → ScanB al (LgA al (t :: r)) (joinL [124] ((t :: r).map fun t => txM t 0))
  | [], t, h => (h t (List.mem_cons_self ..)).imp fun w => by
    rw [LgA, LgA]
    exact ⟨.inl, fun h => h.elim id fun h => h.elim⟩
  | y :: r, t, h => by
    have h1 := h t (List.mem_cons_self ..)
    have h2 := scan_alt (r := r) (t := y) fun x hx => h x (List.mem_cons_of_mem _ hx)
    rw [List.map_cons, List.map_cons, joinL_cons]
    refine (ScanB.bar h1 h2).imp fun w => ?_
    show (Lg al t w ∨ LgA al (y :: r) w) ↔ _
    exact (show LgA al (t :: y :: r) w ↔ _ from by rw [LgA]).symm
theorem LgRow {al : List Nat} {ts : List Tr} {w : List Nat} : Lg al (.row ts) w ↔ LgC al ts w := by rw [Lg]
theorem LgAlt {al : List Nat} {ts : List Tr} {w : List Nat} : Lg al (.alt ts) w ↔ LgA al ts w := by rw [Lg]
theorem scan_tree {al : List Nat} (hn : NoSig al) : ∀ (d : Nat) (t : Tr), TrOk al d t → ScanE al (Lg al t) (txM t 1) ∧ (isStar t = false → ScanE al (Lg al t) (txM t 2)) ∧ ScanB al (Lg al t) (txM t 0) := by
  have one : ∀ {t : Tr} {x : List Nat}, ScanE al (Lg al t) x → ScanB al (Lg al t) x := fun {t x} h => by
    have := ScanC.cons h (ScanC.nil al)
    rw [List.append_nil] at this
    exact ScanB.ofC this fun w => ⟨fun ⟨u, v, e, h1, h2⟩ => by rw [e, show v = [] from h2, List.append_nil]; exact h1, fun h => ⟨w, [], (List.append_nil w).symm, h, rfl⟩⟩
  have hany : ScanE al (Lg al .any) [46] := (scan_place (fun s => tk_any al s)).imp fun w => by
    rw [Lg]
    constructor
    · rintro ⟨k, e, _⟩; exact ⟨k, e⟩
    · rintro ⟨k, e⟩; exact ⟨k, e, .inl rfl⟩
  have hltr : ∀ c ∈ al, ScanE al (Lg al (.ltr c)) [c] := fun c hc => (scan_place (fun s => tk_ltr hc hn s)).imp fun w => by
    rw [Lg]
    constructor
    · rintro ⟨k, e, h⟩
      rcases h with h | h
      · cases h
      · rw [e, Option.some.inj h]
    · intro e; exact ⟨ix al c, e, .inr rfl⟩
  have rowB : ∀ ts, (∀ t ∈ ts, ScanE al (Lg al t) (txM t 1)) → ScanB al (Lg al (.row ts)) (ts.map fun t => txM t 1).flatten := fun ts h => ScanB.ofC (scan_row h) fun w => (LgC_cat al ts w).trans LgRow.symm
  have rowT : ∀ ts, (∀ t ∈ ts, ScanE al (Lg al t) (txM t 1)) → ScanE al (Lg al (.row ts)) (txM (.row ts) 1) ∧ ScanE al (Lg al (.row ts)) (txM (.row ts) 2) ∧ ScanB al (Lg al (.row ts)) (txM (.row ts) 0) := fun ts h => by
    rw [txM, txM, txM, txMs_map]
    exact ⟨scan_par (rowB ts h), scan_par (rowB ts h), rowB ts h⟩
  intro d
  induction d with
  | zero =>
    intro t ht
    cases t with
    | any => rw [txM, txM, txM]; exact ⟨hany, fun _ => hany, one hany⟩
    | ltr c => rw [txM, txM, txM]; exact ⟨hltr c ht, fun _ => hltr c ht, one (hltr c ht)⟩
    | star k t => exact ht.elim
    | row ts =>
      have ht : ts = [] := ht
      subst ht
      obtain ⟨a, b, c⟩ := rowT [] (fun _ h => by cases h)
      exact ⟨a, fun _ => b, c⟩
    | alt ts => exact ht.elim
  | succ d ih =>
    intro t ht
    cases t with
    | any => rw [txM, txM, txM]; exact ⟨hany, fun _ => hany, one hany⟩
    | ltr c => rw [txM, txM, txM]; exact ⟨hltr c ht, fun _ => hltr c ht, one (hltr c ht)⟩
    | star k t =>
      obtain ⟨i1, i2, _⟩ := ih t ht.2
      have hx : ScanE al (Lg al t) (txM t (if isStar t = true then 1 else 2)) := by
        cases hs : isStar t with
        | true => rw [if_pos rfl]; exact i1
        | false => rw [if_neg (by decide)]; exact i2 hs
      have h := scan_sign ht.1 hx
      have h : ScanE al (Lg al (.star k t)) (txM t (if isStar t = true then 1 else 2) ++ [k]) := h.imp fun w => by rw [Lg]
      rw [txM, txM]
      exact ⟨h, fun z => (by cases z), one h⟩
    | row ts =>
      obtain ⟨a, b, c⟩ := rowT ts fun t h => (ih t (ht.2 t h)).1
      exact ⟨a, fun _ => b, c⟩
    | alt ts =>
      obtain ⟨⟨l1, _⟩, hts⟩ := ht
      cases ts with
      | nil => simp at l1
      | cons t r =>
        have hB : ScanB al (Lg al (.alt (t :: r))) (joinL [124] ((t :: r).map fun t => txM t 0)) := (scan_alt fun x hx => (ih x (hts x hx)).2.2).imp fun w => LgAlt.symm
        have hE := scan_par hB
        rw [txM, txM, txM, txMs_map]
        refine ⟨hE, fun _ => hE, ?_⟩
        unfold par
        split
        · exact hB
        · exact one hE
/-- what the program makes of a drawn pattern -/
theorem pattern_reads {al : List Nat} (hn : NoSig al) {t : Tr} (ht : TrOk al 3 t) (hl : (txM t 0).length ≤ 12) : ∃ s m, (∀ stops y k, (∀ c ∈ txM t 0, c ∉ stops) → scM al stops (txM t 0 ++ y) k sc0 = scM al stops y (k + (txM t 0).length) s) ∧ m ≤ 12 ∧ ScOk m s ∧ s.up = [] ∧
    Cl 0 m (choF s.fol s.tp).1 (choF s.fol s.tp).2 ∧ FolOk m (choF s.fol s.tp).1 ∧ ∀ w, PL s.marks (choF s.fol s.tp).1 (choF s.fol s.tp).2 w ↔ Lg al t w := by
  obtain ⟨_, _, hB⟩ := scan_tree hn 3 t ht
  obtain ⟨s, bs, b, LL, m, a1, a2, a3, a4, a5, a6⟩ := hB sc0 0 sc0_ok rfl (by show 0 + _ ≤ 12; omega)
  obtain ⟨_, _, sg⟩ := rnM_ok sc0_ok a1
  have hm : m ≤ 12 := a3.n12 (by rw [sg]; show 0 + _ ≤ 12; omega)
  have htp : s.tp = (bs, b) := by rw [a4]; rfl
  obtain ⟨q1, q2, q3, q4, _⟩ := choF_lang hm (M := s.marks) (f := s.tp) (LL := LL) a3.fol (by rw [htp]; exact a5)
  exact ⟨s, m, fun stops y k hc => scM_rn sc0_ok a1 (by show 0 + _ ≤ 12; omega) hc, hm, a3, a2.up, q3, q1, fun w => (q4 w).trans (a6 w)⟩
def nmk (N : NetM) (p : Nat) : Option Nat := (none :: N.marks).getD p none
def nfo (N : NetM) (p : Nat) : List Nat := N.fol.getD p []
def fitB : Option Nat → Nat → Bool
  | none, _ => true
  | some j, k => decide (j = k)
theorem fitB_iff {m : Option Nat} {k : Nat} : fitB m k = true ↔ fit m k := by
  cases m with
  | none => exact ⟨fun _ => .inl rfl, fun _ => rfl⟩
  | some j =>
    constructor
    · intro h; exact .inr (by rw [of_decide_eq_true h])
    · rintro (h | h)
      · cases h
      · cases h; exact decide_eq_true rfl
structure NtOk (m : Nat) (N : NetM) : Prop where
  m12 : m ≤ 12
  mks : N.marks.length = m
  fol : N.fol.length = m + 1
  fo : ∀ l ∈ N.fol, ∀ x ∈ l, 1 ≤ x ∧ x ≤ m
  ends : ∀ x ∈ N.ends, x ≤ m
theorem NtOk.nfo {m : Nat} {N : NetM} (h : NtOk m N) {p x : Nat} (hx : x ∈ nfo N p) : 1 ≤ x ∧ x ≤ m := by
  unfold FA.nfo at hx
  by_cases hp : p < N.fol.length
  · exact h.fo _ (getD_mem [] hp) x hx
  · rw [List.getD_eq_getElem?_getD, List.getElem?_eq_none (by omega)] at hx
    cases hx
theorem dMk_is (m : Option Nat) : opIs (dMk m) .non = some (.fz (.bl m.isNone)) := by cases m <;> rfl
theorem nt_marks (N : NetM) : fldO (.fz (dNet N)) "marks" = some (.fz (dMks N.marks)) := by rfl
theorem nt_fol (N : NetM) : fldO (.fz (dNet N)) "follow" = some (.fz (dNss N.fol)) := by rfl
theorem nt_ends (N : NetM) : fldO (.fz (dNet N)) "ends" = some (.fz (dNs N.ends)) := by rfl
theorem head_kv1 (ks : List Nat) (q : Nat) : headOk (kv1 ks) (dN q) = true := headOk_map (f := dN) (t := false) kOk_dN (fun _ => O.fz (.bl true)) id ks q
theorem put_kv1 (ks : List Nat) (q : Nat) : putK (kv1 ks) (dN q) (.fz (.bl true)) = kv1 (if q ∈ ks then ks else ks ++ [q]) := by
  by_cases h : q ∈ ks
  · rw [if_pos h, putK_kv1 q ks h]
  · rw [if_neg h, putK_new _ _ (getK_kv1 q ks h)]
    unfold kv1
    rw [List.map_append]; rfl
abbrev onB2 : Stx := sBlk [
      (sIf (tOr (tE (e2 opIs (eP (pIx (pFld (pV 0) "marks") (pV 5))) (eC (.non)))) (tE (e2 opEq (eP (pIx (pFld (pV 0) "marks") (pV 5))) (eP (pV 2))))) (sBlk [
        (sSetD 3 (eP (pV 5)) (eC (.bl true)))]) sNx)]
abbrev onE (N : NetM) (S : List Nat) (k : Nat) (ks : List Nat) (c4 c5 : Option O) : Env := [some (.fz (dNet N)), some (.fz (dWt S)), some (.fz (dN k)), some (.dic (kv1 ks)), c4, c5]
def KsOk (m : Nat) (ks : List Nat) : Prop := ks.Nodup ∧ ∀ x ∈ ks, x ≤ m
theorem KsOk.len {m : Nat} {ks : List Nat} (h : KsOk m ks) : ks.length ≤ m + 1 := by
  have p : ((List.range (m + 1)).filter fun x => decide (x ∈ ks)).Perm ks := (List.perm_ext_iff_of_nodup (List.Pairwise.filter _ List.nodup_range : List.Nodup _) h.1).mpr fun z => by
    rw [List.mem_filter, List.mem_range, decide_eq_true_eq]
    exact ⟨fun q => q.2, fun q => ⟨by have := h.2 z q; omega, q⟩⟩
  have := List.length_filter_le (fun x => decide (x ∈ ks)) (List.range (m + 1))
  rw [p.length_eq, List.length_range] at this
  exact this
theorem on_inner {m : Nat} {N : NetM} (h : NtOk m N) (S : List Nat) (k : Nat) (c4 : Option O) : ∀ (l : List Nat) (ks : List Nat) (c5 : Option O), KsOk m ks → (∀ x ∈ l, 1 ≤ x ∧ x ≤ m) → ∃ ks' c5', KsOk m ks' ∧ (∀ z, z ∈ ks' ↔ z ∈ ks ∨ (z ∈ l ∧ fitB (nmk N z) k = true)) ∧
    forL (.nm 5) onB2 (l.map dN) (onE N S k ks c4 c5) = .ok .nx (onE N S k ks' c4 c5')
  | [], ks, c5, hk, _ => ⟨ks, c5, hk, fun z => by simp, rfl⟩
  | q :: l, ks, c5, hk, hl => by
    have hq := hl q (List.mem_cons_self ..)
    have hi : itemD (dMks N.marks) (dN q) = some (dMk (nmk N q)) := item_map (f := dMk) (l := none :: N.marks) none (by rw [List.length_cons, h.mks]; omega)
    have hlen : (kv1 ks).length < line := by
      have := hk.len
      have := h.m12
      show (ks.map _).length < line
      rw [List.length_map]
      unfold line; omega
    by_cases hf : fitB (nmk N q) k = true
    · have hk' : KsOk m (if q ∈ ks then ks else ks ++ [q]) := by
        split
        · exact hk
        · rename_i hn
          refine ⟨List.nodup_append.mpr ⟨hk.1, by simp, fun a ha b hb e => hn (by rw [List.mem_singleton.mp hb] at e; rw [← e]; exact ha)⟩, fun x hx => ?_⟩
          rcases List.mem_append.mp hx with hx | hx
          · exact hk.2 x hx
          · rw [List.mem_singleton.mp hx]; exact hq.2
      obtain ⟨ks', c5', i1, i2, i3⟩ := on_inner h S k c4 l (if q ∈ ks then ks else ks ++ [q]) (some (.fz (dN q))) hk' fun x hx => hl x (List.mem_cons_of_mem _ hx)
      refine ⟨ks', c5', i1, fun z => ?_, ?_⟩
      · rw [i2]
        have hz : z ∈ (if q ∈ ks then ks else ks ++ [q]) ↔ z ∈ ks ∨ z = q := by
          split
          · rename_i hin
            exact ⟨.inl, fun h => h.elim id fun e => e ▸ hin⟩
          · simp
        rw [hz, List.mem_cons]
        constructor
        · rintro ((h | h) | ⟨h1, h2⟩)
          · exact .inl h
          · exact .inr ⟨.inl h, by rw [h]; exact hf⟩
          · exact .inr ⟨.inr h1, h2⟩
        · rintro (h | ⟨h1 | h1, h2⟩)
          · exact .inl (.inl h)
          · exact .inl (.inr h1)
          · exact .inr ⟨h1, h2⟩
      · rw [List.map_cons, x_forC]
        have hd := head_kv1 ks q
        have hp := put_kv1 ks q
        cases hm : nmk N q with
        | none =>
          rw [hm] at hi
          have e1 := dMk_is none
          simp_arith [nt_marks, hi, e1, Option.isNone_none, hd, hlen, hp, and_self, true_and]
          exact i3
        | some j =>
          rw [hm] at hi hf
          have e1 := dMk_is (some j)
          have hj : decide (j = k) = true := hf
          have e2 : dMk (some j) = dN j := rfl
          rw [e2] at hi e1
          simp_arith [nt_marks, hi, e1, Option.isNone_some, hj, hd, hlen, hp, and_self, true_and]
          exact i3
    · obtain ⟨ks', c5', i1, i2, i3⟩ := on_inner h S k c4 l ks (some (.fz (dN q))) hk fun x hx => hl x (List.mem_cons_of_mem _ hx)
      refine ⟨ks', c5', i1, fun z => ?_, ?_⟩
      · rw [i2, List.mem_cons]
        constructor
        · rintro (h | ⟨h1, h2⟩)
          · exact .inl h
          · exact .inr ⟨.inr h1, h2⟩
        · rintro (h | ⟨h1 | h1, h2⟩)
          · exact .inl h
          · rw [h1] at h2; exact (hf h2).elim
          · exact .inr ⟨h1, h2⟩
      · rw [List.map_cons, x_forC]
        cases hm : nmk N q with
        | none => rw [hm] at hf; exact (hf rfl).elim
        | some j =>
          rw [hm] at hi hf
          have e1 := dMk_is (some j)
          have hj : decide (j = k) = false := by
            have : ¬ decide (j = k) = true := hf
            simpa using this
          have e2 : dMk (some j) = dN j := rfl
          rw [e2] at hi e1
          simp_arith [nt_marks, hi, e1, Option.isNone_some, hj]
          exact i3
def stN (N : NetM) (S : List Nat) (k : Nat) : List Nat := (List.range 13).filter fun q => S.any fun p => (nfo N p).contains q && fitB (nmk N q) k
theorem mem_stN {N : NetM} {S : List Nat} {k q : Nat} : q ∈ stN N S k ↔ q < 13 ∧ ∃ p, p ∈ S ∧ q ∈ nfo N p ∧ fitB (nmk N q) k = true := by
  unfold stN
  rw [List.mem_filter, List.mem_range, List.any_eq_true]
  refine and_congr Iff.rfl ?_
  constructor
  · rintro ⟨p, hp, h⟩
    rw [Bool.and_eq_true] at h
    exact ⟨p, hp, by simpa using h.1, h.2⟩
  · rintro ⟨p, hp, h1, h2⟩
    exact ⟨p, hp, by rw [Bool.and_eq_true]; exact ⟨by simpa using h1, h2⟩⟩
theorem on_outer {m : Nat} {N : NetM} (h : NtOk m N) (S : List Nat) (k : Nat) : ∀ (l : List Nat) (ks : List Nat) (c4 c5 : Option O), KsOk m ks → (∀ x ∈ l, x ≤ m) → ∃ ks' c4' c5', KsOk m ks' ∧ (∀ z, z ∈ ks' ↔ z ∈ ks ∨ ∃ p, p ∈ l ∧ z ∈ nfo N p ∧ fitB (nmk N z) k = true) ∧
    forL (.nm 4) (sBlk [(sFor (.nm 5) (iE (eP (pIx (pFld (pV 0) "follow") (pV 4)))) onB2)]) (l.map dN) (onE N S k ks c4 c5) = .ok .nx (onE N S k ks' c4' c5')
  | [], ks, c4, c5, hk, _ => ⟨ks, c4, c5, hk, fun z => by simp, rfl⟩
  | p :: l, ks, c4, c5, hk, hl => by
    have hp := hl p (List.mem_cons_self ..)
    have hi : itemD (dNss N.fol) (dN p) = some (dNs (nfo N p)) := item_map (f := dNs) [] (by rw [h.fol]; omega)
    obtain ⟨ks1, c5', i1, i2, i3⟩ := on_inner h S k (some (.fz (dN p))) (nfo N p) ks c5 hk fun x hx => h.nfo hx
    obtain ⟨ks', c4', c5'', j1, j2, j3⟩ := on_outer h S k l ks1 (some (.fz (dN p))) c5' i1 fun x hx => hl x (List.mem_cons_of_mem _ hx)
    refine ⟨ks', c4', c5'', j1, fun z => ?_, ?_⟩
    · rw [j2, i2]
      constructor
      · rintro ((h | ⟨h1, h2⟩) | ⟨q, hq, h⟩)
        · exact .inl h
        · exact .inr ⟨p, List.mem_cons_self .., h1, h2⟩
        · exact .inr ⟨q, List.mem_cons_of_mem _ hq, h⟩
      · rintro (h | ⟨q, hq, h⟩)
        · exact .inl (.inl h)
        · rcases List.mem_cons.mp hq with rfl | hq
          · exact .inl (.inr h)
          · exact .inr ⟨q, hq, h⟩
    · rw [List.map_cons, x_forC]
      simp_arith [nt_fol, hi, i3]
      exact j3
theorem perm_stN {ks S : List Nat} {N : NetM} {k m : Nat} (h : NtOk m N) (hk : KsOk m ks) (hz : ∀ z, z ∈ ks ↔ ∃ p, p ∈ S ∧ z ∈ nfo N p ∧ fitB (nmk N z) k = true) : (stN N S k).Perm ks := by
  have nd2 : (stN N S k).Nodup := (List.Pairwise.filter _ List.nodup_range : List.Nodup _)
  refine (List.perm_ext_iff_of_nodup nd2 hk.1).mpr fun z => ?_
  rw [mem_stN, hz]
  exact ⟨fun q => q.2, fun q => ⟨by obtain ⟨p, _, hp, _⟩ := q; have := (h.nfo hp).2; have := h.m12; omega, q⟩⟩
theorem onward_ok {m : Nat} {N : NetM} (h : NtOk m N) {S : List Nat} (hS : ∀ x ∈ S, x ≤ m) (k : Nat) : sem_onward [.fz (dNet N), .fz (dWt S), .fz (dN k)] = .ok (.fz (dWt (stN N S k))) [] := by
  obtain ⟨ks, c4, c5, h1, h2, h3⟩ := on_outer h S k S [] none none ⟨List.nodup_nil, fun _ h => (by cases h)⟩ hS
  have hp := perm_stN (S := S) (k := k) h h1 (fun z => by rw [h2]; simp)
  have hlen : ks.length < 64 := by
    have := h1.len
    have := h.m12
    omega
  have hs : ((ks.map fun (k : Nat) => (k : Int)).mergeSort fun a b => decide (a ≤ b)) = (stN N S k).map fun (k : Nat) => (k : Int) := by
    refine (le_perm_eq (((hp.map fun (k : Nat) => (k : Int)).trans (List.mergeSort_perm _ _).symm)) ?_ (sortI_pw _)).symm
    have : (stN N S k).Pairwise (· < ·) := List.Pairwise.filter _ List.pairwise_lt_range
    exact List.pairwise_map.mpr (this.imp fun h => by omega)
  have ho := sortI_of hlen hs
  rw [fr_dic] at ho
  have h3 : forL (.nm 4) _ _ [some (.fz (dNet N)), some (.fz (dWt S)), some (.fz (dN k)), some (.dic []), none, none] = _ := h3
  unfold sem_onward body_onward
  simp_arith [h3, ho, fr_mrg]
theorem stN_le {m : Nat} {N : NetM} (h : NtOk m N) {S : List Nat} {k : Nat} : ∀ x ∈ stN N S k, x ≤ m := fun x hx => by
  obtain ⟨_, p, _, hp, _⟩ := mem_stN.mp hx
  exact (h.nfo hp).2
def acB (N : NetM) (S : List Nat) : Bool := S.any fun p => N.ends.contains p
theorem inN (a : Nat) (l : List Nat) : opIn (dN a) (dNs l) = some (.fz (.bl (l.contains a))) := by
  show (inD (dN a) (.lst (l.map dN))).map boolO = _
  rw [in_list (f := dN) (plain_dN 60) dN_eq a l]
  have : decide (a ∈ l) = l.contains a := by
    rw [Bool.eq_iff_iff]; simp
  rw [this]; rfl
theorem any_b {α : Type} (f : α → Bool) (l : List α) : opAny (.lst (l.map fun x => .bl (f x))) = some (.fz (.bl (l.any f))) := by
  show (boolsOf (l.map fun x => .bl (f x))).map (fun l => boolO (l.any id)) = _
  rw [bools_of]
  show some (boolO ((l.map f).any id)) = _
  rw [List.any_map]; rfl
theorem accepts_ok {N : NetM} {S : List Nat} (hS : S.length ≤ line) : sem_accepts [.fz (dNet N), .fz (dWt S)] = .ok (.fz (.bl (acB N S))) [] := by
  unfold sem_accepts body_accepts
  have hc := comp_of (r := eComp [2] (.nm 2) (iE (eP (pV 1))) tT (e2P opIn (eP (pV 2)) (pFld (pV 0) "ends")) [some (.fz (dNet N)), some (.fz (dWt S)), none]) rfl (l := S) dN (fun p => .fz (.bl (N.ends.contains p))) (by simp_arith []) rfl hS (fun p hp => by
    refine ⟨[some (.fz (dNet N)), some (.fz (dWt S)), some (.fz (dN p))], rfl, ?_, rfl⟩
    simp_arith [nt_ends, inN])
  have ha := any_b (fun p => N.ends.contains p) S
  simp_arith [hc, y_frsfz, ha]
  rfl
def rdN (N : NetM) (S : List Nat) (w : List Nat) : List Nat := w.foldl (stN N) S
theorem describes_ok {m : Nat} {N : NetM} (h : NtOk m N) (w : List Nat) : sem_describes [.fz (dNet N), .fz (dNs w)] = .ok (.fz (.bl (acB N (rdN N [0] w)))) [] := by
  unfold sem_describes body_describes
  have t1 : tupO [.fz (dN 0)] = .fz (dWt [0]) := rfl
  simp_arith [t1]
  generalize hfor : forL _ _ _ _ = r
  obtain ⟨⟨S, c3⟩, rfl, hI, hI2⟩ := for_of hfor (fun (p : List Nat × Option O) => [some (.fz (dNet N)), some (.fz (dNs w)), some (.fz (dWt p.1)), p.2]) (fun i p => p.1 = rdN N [0] (w.take i) ∧ ∀ x ∈ p.1, x ≤ m) ([0], none) rfl ⟨rfl, fun x hx => by rw [List.mem_singleton.mp hx]; exact Nat.zero_le _⟩ (by
    rintro i d ⟨S, c3⟩ hd ⟨hI, hI2⟩
    obtain ⟨k, hk, rfl⟩ := map_at hd
    simp only at hI hI2
    have e := onward_ok h hI2 k
    refine ⟨(stN N S k, some (.fz (dN k))), ?_, ?_, stN_le h⟩
    · simp_arith [e]
    · simp only
      rw [take_at hk]
      unfold rdN
      rw [List.foldl_append]
      show stN N S k = stN N (rdN N [0] (w.take i)) k
      rw [hI])
  rw [List.length_map, List.take_length] at hI
  simp only at hI hI2
  have hlen : S.length ≤ line := by
    rw [hI]
    cases w with
    | nil => show 1 ≤ line; decide
    | cons k r =>
      have : ∀ (r : List Nat) (S : List Nat), S.length ≤ 13 → (rdN N S r).length ≤ 13 := by
        intro r
        induction r with
        | nil => intro S h; exact h
        | cons k r ih =>
          intro S _
          refine ih (stN N S k) ?_
          have := List.length_filter_le (fun q => S.any fun p => (nfo N p).contains q && fitB (nmk N q) k) (List.range 13)
          simpa [stN] using this
      have := this (k :: r) [0] (by decide)
      unfold line; omega
  have ea := accepts_ok (N := N) hlen
  subst hI
  simp_arith [ea]
def Ac (N : NetM) : Nat → List Nat → Prop
  | p, [] => p ∈ N.ends
  | p, k :: r => ∃ q, q ∈ nfo N p ∧ fitB (nmk N q) k = true ∧ Ac N q r
theorem ac_rd {m : Nat} {N : NetM} (h : NtOk m N) : ∀ (w : List Nat) (S : List Nat), acB N (rdN N S w) = true ↔ ∃ p, p ∈ S ∧ Ac N p w
  | [], S => by
    show acB N S = true ↔ _
    unfold acB
    rw [List.any_eq_true]
    constructor
    · rintro ⟨p, hp, h⟩; exact ⟨p, hp, by simpa [Ac] using h⟩
    · rintro ⟨p, hp, h⟩; exact ⟨p, hp, by simpa [Ac] using h⟩
  | k :: r, S => by
    show acB N (rdN N (stN N S k) r) = true ↔ _
    rw [ac_rd h r]
    constructor
    · rintro ⟨q, hq, ha⟩
      obtain ⟨_, p, hp, h1, h2⟩ := mem_stN.mp hq
      exact ⟨p, hp, q, h1, h2, ha⟩
    · rintro ⟨p, hp, q, h1, h2, ha⟩
      exact ⟨q, mem_stN.mpr ⟨by have := (h.nfo h1).2; have := h.m12; omega, p, hp, h1, h2⟩, ha⟩
theorem net_ok {m : Nat} {s : ScM} (hm : m ≤ 12) (h : ScOk m s) (hF : FolOk m (choF s.fol s.tp).1) (hP : Cl 0 m (choF s.fol s.tp).1 (choF s.fol s.tp).2) : NtOk m (netM s) := by
  refine ⟨hm, h.mks, by show ((choF s.fol s.tp).2.fst :: (choF s.fol s.tp).1).length = _; rw [List.length_cons, hF.1], fun l hl x hx => ?_, fun x hx => ?_⟩
  · rcases List.mem_cons.mp hl with rfl | hl
    · have := hP.fst x hx; unfold Btw at this; omega
    · exact (hF.2 l hl).1 x hx
  · have hx : x ∈ (if (choF s.fol s.tp).2.nul = true then [0] else []) ++ (choF s.fol s.tp).2.lst := hx
    rcases List.mem_append.mp hx with hx | hx
    · split at hx
      · rw [List.mem_singleton.mp hx]; exact Nat.zero_le _
      · cases hx
    · have := hP.lst x hx; unfold Btw at this; omega
/-- a network reads what its part reads -/
theorem net_reads {m : Nat} {s : ScM} (hm : m ≤ 12) (h : ScOk m s) (hF : FolOk m (choF s.fol s.tp).1) (hP : Cl 0 m (choF s.fol s.tp).1 (choF s.fol s.tp).2) (w : List Nat) :
    acB (netM s) (rdN (netM s) [0] w) = true ↔ PL s.marks (choF s.fol s.tp).1 (choF s.fol s.tp).2 w := by
  have hN := net_ok hm h hF hP
  rw [ac_rd hN]
  have ends : ∀ p, p ∈ (netM s).ends ↔ (p = 0 ∧ (choF s.fol s.tp).2.nul = true) ∨ p ∈ (choF s.fol s.tp).2.lst := fun p => by
    show p ∈ (if (choF s.fol s.tp).2.nul = true then [0] else []) ++ (choF s.fol s.tp).2.lst ↔ _
    rw [List.mem_append]
    cases (choF s.fol s.tp).2.nul <;> simp
  have fo0 : nfo (netM s) 0 = (choF s.fol s.tp).2.fst := rfl
  have fo1 : ∀ p, 1 ≤ p → nfo (netM s) p = foA (choF s.fol s.tp).1 p := fun p hp => by
    obtain ⟨q, rfl⟩ : ∃ q, p = q + 1 := ⟨p - 1, by omega⟩
    rfl
  have mk1 : ∀ p, 1 ≤ p → nmk (netM s) p = mkA s.marks p := fun p hp => by
    obtain ⟨q, rfl⟩ : ∃ q, p = q + 1 := ⟨p - 1, by omega⟩
    rfl
  generalize netM s = N at *
  generalize choF s.fol s.tp = R at *
  obtain ⟨F, P⟩ := R
  simp only at *
  have step : ∀ (r : List Nat) (k q : Nat), 1 ≤ q → (fitB (nmk N q) k = true ∧ Ac N q r ↔ Rd s.marks F P.lst q (k :: r)) := by
    intro r
    induction r with
    | nil =>
      intro k q hq
      rw [fitB_iff, mk1 q hq]
      unfold Ac
      rw [ends]
      constructor
      · rintro ⟨h1, ⟨h2, _⟩ | h2⟩
        · omega
        · exact ⟨h1, .inl ⟨rfl, h2⟩⟩
      · rintro ⟨h1, ⟨_, h2⟩ | ⟨x, _, h2⟩⟩
        · exact ⟨h1, .inr h2⟩
        · exact h2.elim
    | cons k' r ih =>
      intro k q hq
      rw [fitB_iff, mk1 q hq]
      constructor
      · rintro ⟨h1, x, hx, h2, h3⟩
        have hx1 := (hN.nfo hx).1
        rw [fo1 q hq] at hx
        exact ⟨h1, .inr ⟨x, hx, (ih k' x hx1).mp ⟨h2, h3⟩⟩⟩
      · rintro ⟨h1, ⟨h, _⟩ | ⟨x, hx, h2⟩⟩
        · cases h
        · rw [← fo1 q hq] at hx
          obtain ⟨a, b⟩ := (ih k' x (hN.nfo hx).1).mpr h2
          exact ⟨h1, x, hx, a, b⟩
  cases w with
  | nil =>
    constructor
    · rintro ⟨p, hp, h⟩
      have hp : p = 0 := List.mem_singleton.mp hp
      subst hp
      rcases (ends 0).mp h with ⟨_, h⟩ | h
      · exact .inl ⟨rfl, h⟩
      · have := hP.lst 0 h; unfold Btw at this; omega
    · rintro (⟨_, h⟩ | ⟨p, _, h⟩)
      · exact ⟨0, List.mem_singleton.mpr rfl, (ends 0).mpr (.inl ⟨rfl, h⟩)⟩
      · exact h.elim
  | cons k r =>
    constructor
    · rintro ⟨p, hp, q, hq, h1, h2⟩
      have hp : p = 0 := List.mem_singleton.mp hp
      subst hp
      exact .inr ⟨q, by rw [← fo0]; exact hq, (step r k q (hN.nfo hq).1).mp ⟨h1, h2⟩⟩
    · rintro (⟨h, _⟩ | ⟨q, hq, h⟩)
      · cases h
      · rw [← fo0] at hq
        obtain ⟨a, b⟩ := (step r k q (hN.nfo hq).1).mpr h
        exact ⟨0, List.mem_singleton.mpr rfl, q, hq, a, b⟩
def seg (W : List Nat) (a b : Nat) : List Nat := (W.take b).drop a
theorem seg_len {W : List Nat} {a b : Nat} (h1 : a ≤ b) (h2 : b ≤ W.length) : (seg W a b).length = b - a := by
  unfold seg
  rw [List.length_drop, List.length_take]
  omega
theorem seg_nil {W : List Nat} (a : Nat) : seg W a a = [] := by
  unfold seg
  exact List.drop_eq_nil_of_le (by rw [List.length_take]; omega)
theorem seg_app {W : List Nat} {a b c : Nat} (h1 : a ≤ b) (h2 : b ≤ c) (h3 : c ≤ W.length) : seg W a c = seg W a b ++ seg W b c := by
  unfold seg
  have : W.take c = W.take b ++ (W.take c).drop b := by
    have := (List.take_append_drop b (W.take c)).symm
    rwa [List.take_take, Nat.min_eq_left h2] at this
  conv => lhs; rw [this]
  rw [List.drop_append_of_le_length (by rw [List.length_take]; omega)]
theorem seg_cut {W u v : List Nat} {a c : Nat} (h1 : a ≤ c) (h3 : c ≤ W.length) (e : seg W a c = u ++ v) : a + u.length ≤ c ∧ u = seg W a (a + u.length) ∧ v = seg W (a + u.length) c := by
  have hl := congrArg List.length e
  rw [seg_len h1 h3, List.length_append] at hl
  have hb : a + u.length ≤ c := by omega
  have := seg_app (W := W) (a := a) (b := a + u.length) (c := c) (by omega) hb h3
  rw [this] at e
  have hlu : (seg W a (a + u.length)).length = u.length := by rw [seg_len (by omega) (by omega)]; omega
  obtain ⟨e1, e2⟩ := List.append_inj e hlu
  exact ⟨hb, e1.symm, e2.symm⟩
theorem seg_one {W : List Nat} {a : Nat} (h : a < W.length) : seg W a (a + 1) = [W.getD a 0] := by
  unfold seg
  rw [List.take_add_one, List.getElem?_eq_getElem h, List.drop_append_of_le_length (by rw [List.length_take]; omega)]
  rw [List.drop_eq_nil_of_le (by rw [List.length_take]; omega), List.getD_eq_getElem?_getD, List.getElem?_eq_getElem h]
  rfl
/-- what a language joins -/
def Jn (W : List Nat) (L : Lng) (a b : Nat) : Prop := a ≤ b ∧ b ≤ W.length ∧ L (seg W a b)
inductive TC (R : Nat → Nat → Prop) : Nat → Nat → Prop
  | one {a b : Nat} (h : R a b) : TC R a b
  | cons {a b c : Nat} (h : R a b) (r : TC R b c) : TC R a c
theorem TC.snoc {R : Nat → Nat → Prop} {a b c : Nat} (h : TC R a b) (r : R b c) : TC R a c := by
  induction h with
  | one h => exact .cons h (.one r)
  | cons h _ ih => exact .cons h (ih r)
theorem TC.le {W : List Nat} {L : Lng} {a b : Nat} (h : TC (Jn W L) a b) : a ≤ b ∧ b ≤ W.length := by
  induction h with
  | one h => exact ⟨h.1, h.2.1⟩
  | cons h _ ih => exact ⟨Nat.le_trans h.1 ih.1, ih.2⟩
theorem star_jn {W : List Nat} {L : Lng} {a c : Nat} : Jn W (Star L) a c ↔ (a = c ∧ c ≤ W.length) ∨ TC (Jn W L) a c := by
  constructor
  · rintro ⟨h1, h2, h⟩
    have key : ∀ w, Star L w → ∀ a, a ≤ c → seg W a c = w → (a = c) ∨ TC (Jn W L) a c := by
      intro w hw
      induction hw with
      | nil =>
        intro a ha e
        left
        have := seg_len ha h2
        rw [e] at this
        simp at this
        omega
      | @cons u v hu _ ih =>
        intro a ha e
        obtain ⟨hb, e1, e2⟩ := seg_cut ha h2 e
        right
        have hj : Jn W L a (a + u.length) := ⟨by omega, by omega, by rw [← e1]; exact hu⟩
        rcases ih (a + u.length) hb e2.symm with h | h
        · rw [h] at hj; exact .one hj
        · exact .cons hj h
    rcases key _ h a h1 rfl with h | h
    · exact .inl ⟨h, h2⟩
    · exact .inr h
  · rintro (⟨rfl, h⟩ | h)
    · exact ⟨Nat.le_refl _, h, by rw [seg_nil]; exact .nil⟩
    · induction h with
      | one h => exact ⟨h.1, h.2.1, Star.one h.2.2⟩
      | cons h _ ih => exact ⟨Nat.le_trans h.1 ih.1, ih.2.1, by rw [seg_app h.1 ih.1 ih.2.1]; exact .cons h.2.2 ih.2.2⟩
theorem cat_jn {W : List Nat} {L K : Lng} {a c : Nat} : Jn W (fun w => ∃ u v, w = u ++ v ∧ L u ∧ K v) a c ↔ ∃ b, Jn W L a b ∧ Jn W K b c := by
  constructor
  · rintro ⟨h1, h2, u, v, e, hu, hv⟩
    obtain ⟨hb, e1, e2⟩ := seg_cut h1 h2 e
    exact ⟨a + u.length, ⟨by omega, by omega, by rw [← e1]; exact hu⟩, hb, h2, by rw [← e2]; exact hv⟩
  · rintro ⟨b, ⟨h1, h2, hu⟩, h3, h4, hv⟩
    exact ⟨Nat.le_trans h1 h3, h4, _, _, seg_app h1 h3 h4, hu, hv⟩
theorem plus_jn {W : List Nat} {L : Lng} {a c : Nat} : Jn W (fun w => ∃ u v, w = u ++ v ∧ L u ∧ Star L v) a c ↔ TC (Jn W L) a c := by
  rw [cat_jn]
  constructor
  · rintro ⟨b, h1, h2⟩
    rcases star_jn.mp h2 with ⟨rfl, _⟩ | h2
    · exact .one h1
    · exact .cons h1 h2
  · intro h
    cases h with
    | one h => exact ⟨c, h, star_jn.mpr (.inl ⟨rfl, h.2.1⟩)⟩
    | cons h r => exact ⟨_, h, star_jn.mpr (.inr r)⟩
theorem opt_jn {W : List Nat} {L : Lng} {a c : Nat} : Jn W (fun w => w = [] ∨ L w) a c ↔ (a = c ∧ c ≤ W.length) ∨ Jn W L a c := by
  constructor
  · rintro ⟨h1, h2, h | h⟩
    · left
      have := seg_len h1 h2
      rw [h] at this
      simp at this
      exact ⟨by omega, h2⟩
    · exact .inr ⟨h1, h2, h⟩
  · rintro (⟨rfl, h⟩ | ⟨h1, h2, h⟩)
    · exact ⟨Nat.le_refl _, h, .inl (seg_nil a)⟩
    · exact ⟨h1, h2, .inr h⟩
/-- the ends told -/
structure EnOk (W : List Nat) (L : Lng) (st out : List Nat) : Prop where
  nd : out.Nodup
  mem : ∀ x, x ∈ out ↔ ∃ a, a ∈ st ∧ Jn W L a x
theorem EnOk.le {W : List Nat} {L : Lng} {st out : List Nat} (h : EnOk W L st out) : ∀ x ∈ out, x ≤ W.length := fun x hx => by
  obtain ⟨a, _, hj⟩ := (h.mem x).mp hx
  exact hj.2.1
theorem EnOk.imp {W : List Nat} {L K : Lng} {st out : List Nat} (h : EnOk W L st out) (e : ∀ w, L w ↔ K w) : EnOk W K st out := ⟨h.nd, fun x => by
  rw [h.mem]
  exact ⟨fun ⟨a, h1, h2, h3, h4⟩ => ⟨a, h1, h2, h3, (e _).mp h4⟩, fun ⟨a, h1, h2, h3, h4⟩ => ⟨a, h1, h2, h3, (e _).mpr h4⟩⟩⟩
theorem EnOk.perm {W : List Nat} {L : Lng} {st out out' : List Nat} (h : EnOk W L st out) (p : out'.Perm out) : EnOk W L st out' := ⟨p.nodup_iff.mpr h.nd, fun x => by rw [p.mem_iff]; exact h.mem x⟩
/-- one more turn of a star -/
structure SsI (W : List Nat) (L : Lng) (st : List Nat) (i : Nat) (fresh seen : List Nat) : Prop where
  ndf : fresh.Nodup
  nds : seen.Nodup
  fle : ∀ x ∈ fresh, x ≤ W.length
  sound : ∀ x ∈ seen, ∃ a, a ∈ st ∧ TC (Jn W L) a x
  zero : i = 0 → fresh = st ∧ seen = []
  sub : 0 < i → (∀ x ∈ fresh, x ∈ seen) ∧ (∀ a, a ∈ st → ∀ b, Jn W L a b → b ∈ seen) ∧ (∀ a, a ∈ seen → a ∉ fresh → ∀ b, Jn W L a b → b ∈ seen)
  prog : fresh = [] ∨ i ≤ seen.length
theorem SsI.step {W : List Nat} {L : Lng} {st told : List Nat} {i : Nat} {fresh seen : List Nat} (h : SsI W L st i fresh seen) (ht : EnOk W L fresh told) :
    SsI W L st (i + 1) (told.filter fun x => !seen.contains x) (seen ++ told.filter fun x => !seen.contains x) := by
  have mf : ∀ x, x ∈ (told.filter fun x => !seen.contains x) ↔ x ∈ told ∧ x ∉ seen := fun x => by
    rw [List.mem_filter]; simp
  refine ⟨ht.nd.filter _, ?_, fun x hx => ht.le x ((mf x).mp hx).1, fun x hx => ?_, fun z => by omega, fun _ => ⟨fun x hx => List.mem_append_right _ hx, fun a ha b hb => ?_, fun a ha hn b hb => ?_⟩, ?_⟩
  · exact List.nodup_append.mpr ⟨h.nds, ht.nd.filter _, fun a ha b hb e => ((mf b).mp hb).2 (e ▸ ha)⟩
  · rcases List.mem_append.mp hx with hx | hx
    · exact h.sound x hx
    · obtain ⟨a, ha, hj⟩ := (ht.mem x).mp ((mf x).mp hx).1
      by_cases hi : i = 0
      · exact ⟨a, by rw [← (h.zero hi).1]; exact ha, .one hj⟩
      · obtain ⟨c, hc, ht⟩ := h.sound a ((h.sub (by omega)).1 a ha)
        exact ⟨c, hc, ht.snoc hj⟩
  · by_cases hi : i = 0
    · obtain ⟨e1, e2⟩ := h.zero hi
      have : b ∈ told := (ht.mem b).mpr ⟨a, by rw [e1]; exact ha, hb⟩
      rw [e2, List.nil_append]
      rw [e2] at mf
      exact (mf b).mpr ⟨this, by simp⟩
    · exact List.mem_append_left _ ((h.sub (by omega)).2.1 a ha b hb)
  · by_cases hs : b ∈ seen
    · exact List.mem_append_left _ hs
    · rcases List.mem_append.mp ha with ha | ha
      · by_cases hf : a ∈ fresh
        · exact List.mem_append_right _ ((mf b).mpr ⟨(ht.mem b).mpr ⟨a, hf, hb⟩, hs⟩)
        · by_cases hi : i = 0
          · rw [(h.zero hi).2] at ha; cases ha
          · exact List.mem_append_left _ ((h.sub (by omega)).2.2 a ha hf b hb)
      · exact (hn ha).elim
  · by_cases hf : (told.filter fun x => !seen.contains x) = []
    · exact .inl hf
    · right
      have hp := List.length_pos_iff.mpr hf
      rw [List.length_append]
      rcases h.prog with e | e
      · exfalso
        have : told = [] := by
          rw [List.eq_nil_iff_forall_not_mem]
          intro x hx
          obtain ⟨a, ha, _⟩ := (ht.mem x).mp hx
          rw [e] at ha; cases ha
        rw [this] at hf
        exact hf rfl
      · omega
/-- a turn that does nothing -/
theorem SsI.skip {W : List Nat} {L : Lng} {st : List Nat} {i : Nat} {seen : List Nat} (h : SsI W L st i [] seen) : SsI W L st (i + 1) [] seen := by
  refine ⟨h.ndf, h.nds, h.fle, h.sound, fun z => by omega, fun _ => ⟨fun x hx => (by cases hx), fun a ha b hb => ?_, fun a ha hn b hb => ?_⟩, .inl rfl⟩
  · by_cases hi : i = 0
    · rw [← (h.zero hi).1] at ha; cases ha
    · exact (h.sub (by omega)).2.1 a ha b hb
  · by_cases hi : i = 0
    · rw [(h.zero hi).2] at ha; cases ha
    · exact (h.sub (by omega)).2.2 a ha hn b hb
theorem nodup_le {n : Nat} {l : List Nat} (nd : l.Nodup) (h : ∀ x ∈ l, x ≤ n) : l.length ≤ n + 1 := by
  have p : ((List.range (n + 1)).filter fun x => decide (x ∈ l)).Perm l := (List.perm_ext_iff_of_nodup (List.Pairwise.filter _ List.nodup_range : List.Nodup _) nd).mpr fun z => by
    rw [List.mem_filter, List.mem_range, decide_eq_true_eq]
    exact ⟨fun q => q.2, fun q => ⟨by have := h z q; omega, q⟩⟩
  have := List.length_filter_le (fun x => decide (x ∈ l)) (List.range (n + 1))
  rw [p.length_eq, List.length_range] at this
  exact this
theorem SsI.end {W : List Nat} {L : Lng} {st fresh seen : List Nat} (h : SsI W L st (W.length + 2) fresh seen) : ∀ x, x ∈ seen ↔ ∃ a, a ∈ st ∧ TC (Jn W L) a x := fun x => by
  refine ⟨h.sound x, ?_⟩
  have hle : seen.length ≤ W.length + 1 := nodup_le h.nds fun y hy => by
    obtain ⟨a, _, ht⟩ := h.sound y hy
    exact ht.le.2
  have hf : fresh = [] := by
    rcases h.prog with e | e
    · exact e
    · omega
  obtain ⟨_, s2, s3⟩ := h.sub (by omega)
  rw [hf] at s3
  have close : ∀ a b, TC (Jn W L) a b → a ∈ st ∨ a ∈ seen → b ∈ seen := by
    intro a b ht
    induction ht with
    | one hj =>
      rintro (ha | ha)
      · exact s2 _ ha _ hj
      · exact s3 _ ha (by simp) _ hj
    | cons hj _ ih =>
      rintro (ha | ha)
      · exact ih (.inr (s2 _ ha _ hj))
      · exact ih (.inr (s3 _ ha (by simp) _ hj))
  rintro ⟨a, ha, ht⟩
  exact close a x ht (.inl ha)
theorem ninN (a : Nat) (l : List Nat) : opNotIn (dN a) (dNs l) = some (.fz (.bl (!l.contains a))) := by
  show (inD (dN a) (.lst (l.map dN))).map (fun x => boolO (!x)) = _
  rw [in_list (f := dN) (plain_dN 60) dN_eq a l]
  have : decide (a ∈ l) = l.contains a := by
    rw [Bool.eq_iff_iff]; simp
  rw [this]; rfl
theorem sort_dNs {l : List Nat} (h : l.length ≤ line) : ∃ l' : List Nat, l'.Perm l ∧ opSortM (dNs l) = some (.lst (l'.map fun k => .fz (dN k))) := by
  refine ⟨l.mergeSort fun a b => decide (a ≤ b), List.mergeSort_perm _ _, ?_⟩
  show (if (plains (l.map dN) && allAl (l.map dN) && ((l.map dN).all tupN || (l.map dN).all flatN) && decide ((l.map dN).length ≤ line)) = true then some (O.lst (((l.map dN).mergeSort leB).map .fz)) else none) = _
  have c : (plains (l.map dN) && allAl (l.map dN) && ((l.map dN).all tupN || (l.map dN).all flatN) && decide ((l.map dN).length ≤ line)) = true := by
    have h1 : plains (l.map dN) = true := plains_map (plain_dN 60) l
    have h2 : allAl (l.map dN) = true := by
      unfold allAl
      rw [List.all_eq_true]
      intro x hx
      rw [List.all_eq_true]
      intro y hy
      obtain ⟨a, _, rfl⟩ := List.mem_map.mp hx
      obtain ⟨b, _, rfl⟩ := List.mem_map.mp hy
      rfl
    have h3 : (l.map dN).all flatN = true := by
      rw [List.all_eq_true]
      intro x hx
      obtain ⟨a, _, rfl⟩ := List.mem_map.mp hx
      rfl
    rw [h1, h2, h3, List.length_map, decide_eq_true h, Bool.or_true]; rfl
  rw [if_pos c]
  have : (l.map dN).mergeSort leB = (l.mergeSort fun a b => decide (a ≤ b)).map dN := by
    refine (List.map_mergeSort (r := fun a b => decide (a ≤ b)) fun a _ b _ => ?_).symm
    show decide (a ≤ b) = !ltB (dN b) (dN a)
    show decide (a ≤ b) = !decide ((b : Int) < (a : Int))
    rw [Bool.eq_iff_iff]; simp
  rw [this, List.map_map]
  rfl
theorem map_app2 (a b : List Nat) : a.map dN ++ (b.map fun x => dN x) = (a ++ b).map dN := List.map_append.symm
abbrev ixs (al w : List Nat) : List Nat := w.map (ix al)
def EnF (al w : List Nat) (g : Nat) (t : Tr) : Prop := ∀ st : List Nat, st.Nodup → (∀ x ∈ st, x ≤ w.length) → ∃ out o, EnOk (ixs al w) (Lg al t) st out ∧ O.fr o = dNs out ∧ sem_law_ends g [.fz (dTr t), .fz (.str w), .fz (dNs st)] = .ok o []
theorem EnOk.leW {al w : List Nat} {L : Lng} {st out : List Nat} (h : EnOk (ixs al w) L st out) : ∀ x ∈ out, x ≤ w.length := fun x hx => by have := h.le x hx; simpa using this
theorem EnOk.len {al w : List Nat} {L : Lng} {st out : List Nat} (h : EnOk (ixs al w) L st out) : out.length ≤ w.length + 1 := nodup_le h.nd h.leW
theorem ix_inj {al : List Nat} {a b : Nat} (ha : a ∈ al) (hb : b ∈ al) (h : ix al a = ix al b) : a = b := by
  have h1 := (findN_some ha).2.2
  have h2 := (findN_some hb).2.2
  rw [h] at h1
  exact h1.symm.trans h2
theorem any_en {W st : List Nat} (nd : st.Nodup) : EnOk W (fun w => ∃ k, w = [k]) st ((st.filter fun a => decide (a < W.length)).map (· + 1)) := by
  refine ⟨List.pairwise_map.mpr ((nd.filter _).imp fun h e => h (by simpa using e)), fun x => ?_⟩
  rw [List.mem_map]
  constructor
  · rintro ⟨a, ha, rfl⟩
    obtain ⟨h1, h2⟩ := List.mem_filter.mp ha
    have h2 : a < W.length := by simpa using h2
    exact ⟨a, h1, Nat.le_succ a, h2, _, seg_one h2⟩
  · rintro ⟨a, ha, h1, h2, k, e⟩
    have hl := seg_len h1 h2
    rw [e] at hl
    have hl : 1 = x - a := hl
    exact ⟨a, List.mem_filter.mpr ⟨ha, by simp; omega⟩, by omega⟩
theorem ltr_en {al w st : List Nat} {c : Nat} (hw : ∀ c ∈ w, c ∈ al) (hc : c ∈ al) (nd : st.Nodup) : EnOk (ixs al w) (fun w => w = [ix al c]) st ((st.filter fun a => decide (a < w.length) && decide (w.getD a 0 = c)).map (· + 1)) := by
  have hg : ∀ a, a < w.length → (ixs al w).getD a 0 = ix al (w.getD a 0) := fun a ha => by
    simp [List.getD_eq_getElem?_getD, ha]
  refine ⟨List.pairwise_map.mpr ((nd.filter _).imp fun h e => h (by simpa using e)), fun x => ?_⟩
  rw [List.mem_map]
  constructor
  · rintro ⟨a, ha, rfl⟩
    obtain ⟨h1, h2⟩ := List.mem_filter.mp ha
    rw [Bool.and_eq_true, decide_eq_true_eq, decide_eq_true_eq] at h2
    refine ⟨a, h1, Nat.le_succ a, by rw [List.length_map]; exact h2.1, ?_⟩
    rw [seg_one (by rw [List.length_map]; exact h2.1), hg a h2.1, h2.2]
  · rintro ⟨a, ha, h1, h2, e⟩
    have hl := seg_len h1 h2
    rw [e] at hl
    have hl : 1 = x - a := hl
    rw [List.length_map] at h2
    have hx : x = a + 1 := by omega
    subst hx
    have hlt : a < w.length := by omega
    rw [seg_one (by rw [List.length_map]; exact hlt), hg a hlt] at e
    have := ix_inj (hw _ (getD_mem 0 hlt)) hc (List.cons.inj e).1
    exact ⟨a, List.mem_filter.mpr ⟨ha, by rw [Bool.and_eq_true]; exact ⟨decide_eq_true hlt, decide_eq_true this⟩⟩, rfl⟩
abbrev rwB (g : Nat) : Stx := sBlk [(sSet (.nm 2) (eFz (eCall (sem_law_ends g) [.v (eP (pV 3)), .v (eP (pV 1)), .v (eP (pV 2))])))]
theorem row_en {al w : List Nat} {g : Nat} (T : D) : ∀ (ts : List Tr), (∀ t ∈ ts, EnF al w g t) → ∀ (st : List Nat) (c3 : Option O), st.Nodup → (∀ x ∈ st, x ≤ w.length) → ∃ out c3', EnOk (ixs al w) (LgC al ts) st out ∧
    forL (.nm 3) (rwB g) (ts.map dTr) [some (.fz T), some (.fz (.str w)), some (.fz (dNs st)), c3, none, none] = .ok .nx [some (.fz T), some (.fz (.str w)), some (.fz (dNs out)), c3', none, none]
  | [], _, st, c3, nd, hst => ⟨st, c3, ⟨nd, fun x => by
      rw [LgC]
      constructor
      · intro h; exact ⟨x, h, Nat.le_refl x, by rw [List.length_map]; exact hst x h, seg_nil x⟩
      · rintro ⟨a, ha, h1, h2, e⟩
        have hl := seg_len h1 h2
        have e : seg (ixs al w) a x = [] := e
        rw [e] at hl
        have hl : 0 = x - a := hl
        rw [show x = a by omega]; exact ha⟩, rfl⟩
  | t :: r, hf, st, c3, nd, hst => by
    obtain ⟨o1, o, h1, h2, h3⟩ := hf t (List.mem_cons_self ..) st nd hst
    obtain ⟨out, c3', i1, i2⟩ := row_en T r (fun x hx => hf x (List.mem_cons_of_mem _ hx)) o1 (some (.fz (dTr t))) h1.nd h1.leW
    refine ⟨out, c3', ⟨i1.nd, fun x => ?_⟩, ?_⟩
    · rw [i1.mem, LgC]
      constructor
      · rintro ⟨b, hb, hj⟩
        obtain ⟨a, ha, hj1⟩ := (h1.mem b).mp hb
        exact ⟨a, ha, cat_jn.mpr ⟨b, hj1, hj⟩⟩
      · rintro ⟨a, ha, hj⟩
        obtain ⟨b, hj1, hj2⟩ := cat_jn.mp hj
        exact ⟨b, (h1.mem b).mpr ⟨a, ha, hj1⟩, hj2⟩
    · rw [List.map_cons, x_forC]
      simp_arith [h3, h2]
      exact i2
abbrev orB (g : Nat) : Stx := sBlk [(sSet (.nm 4) (eFz (e2 opAdd (eP (pV 4)) (eComp [5] (.nm 5) (iE (eCall (sem_law_ends g) [.v (eP (pV 3)), .v (eP (pV 1)), .v (eP (pV 2))])) (tE (e2P opNotIn (eP (pV 5)) (pV 4))) (eP (pV 5))))))]
theorem or_en {al w : List Nat} {g : Nat} (hlw : w.length ≤ 1000) (T : D) {st : List Nat} (nd : st.Nodup) (hst : ∀ x ∈ st, x ≤ w.length) : ∀ (ts : List Tr), (∀ t ∈ ts, EnF al w g t) → ∀ (o0 : List Nat) (c3 : Option O), o0.Nodup → (∀ x ∈ o0, x ≤ w.length) → ∃ out c3', out.Nodup ∧ (∀ x ∈ out, x ≤ w.length) ∧ (∀ x, x ∈ out ↔ x ∈ o0 ∨ ∃ a, a ∈ st ∧ Jn (ixs al w) (LgA al ts) a x) ∧
    forL (.nm 3) (orB g) (ts.map dTr) [some (.fz T), some (.fz (.str w)), some (.fz (dNs st)), c3, some (.fz (dNs o0)), none] = .ok .nx [some (.fz T), some (.fz (.str w)), some (.fz (dNs st)), c3', some (.fz (dNs out)), none]
  | [], _, o0, c3, n0, h0 => ⟨o0, c3, n0, h0, fun x => by
      rw [LgA]
      constructor
      · exact .inl
      · rintro (h | ⟨a, _, _, _, h⟩)
        · exact h
        · exact h.elim, rfl⟩
  | t :: r, hf, o0, c3, n0, h0 => by
    obtain ⟨o1, o, h1, h2, h3⟩ := hf t (List.mem_cons_self ..) st nd hst
    have mf : ∀ x, x ∈ (o1.filter fun x => !o0.contains x) ↔ x ∈ o1 ∧ x ∉ o0 := fun x => by
      rw [List.mem_filter]; simp
    have n1 : (o0 ++ o1.filter fun x => !o0.contains x).Nodup := List.nodup_append.mpr ⟨n0, h1.nd.filter _, fun a ha b hb e => ((mf b).mp hb).2 (e ▸ ha)⟩
    have b1 : ∀ x ∈ (o0 ++ o1.filter fun x => !o0.contains x), x ≤ w.length := fun x hx => by
      rcases List.mem_append.mp hx with hx | hx
      · exact h0 x hx
      · exact h1.leW x ((mf x).mp hx).1
    obtain ⟨out, c3', i1, i2, i3, i4⟩ := or_en hlw T nd hst r (fun x hx => hf x (List.mem_cons_of_mem _ hx)) (o0 ++ o1.filter fun x => !o0.contains x) (some (.fz (dTr t))) n1 b1
    refine ⟨out, c3', i1, i2, fun x => ?_, ?_⟩
    · rw [i3, List.mem_append, mf, h1.mem, LgA]
      constructor
      · rintro ((h | ⟨⟨a, ha, hj⟩, _⟩) | ⟨a, ha, hj⟩)
        · exact .inl h
        · exact .inr ⟨a, ha, hj.1, hj.2.1, .inl hj.2.2⟩
        · exact .inr ⟨a, ha, hj.1, hj.2.1, .inr hj.2.2⟩
      · rintro (h | ⟨a, ha, q1, q2, h | h⟩)
        · exact .inl (.inl h)
        · by_cases z : x ∈ o0
          · exact .inl (.inl z)
          · exact .inl (.inr ⟨⟨a, ha, q1, q2, h⟩, z⟩)
        · exact .inr ⟨a, ha, q1, q2, h⟩
    · have hc := comp_ifS (r := eComp [5] (.nm 5) (iE (eCall (sem_law_ends g) [.v (eP (pV 3)), .v (eP (pV 1)), .v (eP (pV 2))])) (tE (e2P opNotIn (eP (pV 5)) (pV 4))) (eP (pV 5)) [some (.fz T), some (.fz (.str w)), some (.fz (dNs st)), some (.fz (dTr t)), some (.fz (dNs o0)), none]) (ρ0 := [some (.fz T), some (.fz (.str w)), some (.fz (dNs st)), some (.fz (dTr t)), some (.fz (dNs o0)), none]) rfl (l := o1) dN (fun x => !o0.contains x) (fun x => .fz (dN x)) (by simp_arith [h3, h2]) rfl (by have := h1.len; unfold line; omega) (fun x hx => by
        refine ⟨[some (.fz T), some (.fz (.str w)), some (.fz (dNs st)), some (.fz (dTr t)), some (.fz (dNs o0)), some (.fz (dN x))], rfl, ?_, fun _ => ?_, rfl⟩
        · simp_arith [ninN]
        · simp_arith [])
      have hz : o0.length + (o1.filter fun x => !o0.contains x).length ≤ line := by
        have := nodup_le n1 b1
        rw [List.length_append] at this
        unfold line; omega
      rw [List.map_cons, x_forC]
      simp_arith [hc, fr_mrg, hz, map_app2]
      exact i4
abbrev ssB (g : Nat) : Stx := sBlk [
    (sIf (tAnd (tE (e2 opGt (e1P opLen (pV 4)) (eC (dN 0)))) (tOr (tE (e2 opEq (eP (pV 6)) (eC (dN 0)))) (tE (e2 opNe (eP (pIx (pV 0) (pC (dN 1)))) (eC (.str [63])))))) (sBlk [
      (sSet (.nm 7) (eFz (eCall (sem_law_ends g) [.v (eP (pIx (pV 0) (pC (dN 2)))), .v (eP (pV 1)), .v (eP (pV 4))]))),
      (sSet (.nm 4) (eFz (eComp [8] (.nm 8) (iE (eP (pV 7))) (tE (e2P opNotIn (eP (pV 8)) (pV 5))) (eP (pV 8))))),
      (sSet (.nm 5) (eFz (e2 opAdd (eP (pV 5)) (eP (pV 4)))))]) sNx)]
abbrev ssE (T : D) (w st o0 fresh seen : List Nat) (c6 c7 : Option O) : Env := [some (.fz T), some (.fz (.str w)), some (.fz (dNs st)), some (.fz (dNs o0)), some (.fz (dNs fresh)), some (.fz (dNs seen)), c6, c7, none]
theorem ss_turn {al w : List Nat} {g k : Nat} {t : Tr} (hlw : w.length ≤ 1000) (hf : EnF al w g t) (st o0 : List Nat) {i : Nat} {fresh seen : List Nat} (h : SsI (ixs al w) (Lg al t) st i fresh seen) (hne : fresh ≠ []) (hk : i = 0 ∨ k ≠ 63) (c7 : Option O) :
    ∃ fresh' seen' c7', SsI (ixs al w) (Lg al t) st (i + 1) fresh' seen' ∧ ssB g (ssE (dTr (.star k t)) w st o0 fresh seen (some (.fz (dN i))) c7) = .ok .nx (ssE (dTr (.star k t)) w st o0 fresh' seen' (some (.fz (dN i))) c7') ∧ seen' = seen ++ fresh' ∧ (i = 0 → EnOk (ixs al w) (Lg al t) st seen') := by
  obtain ⟨told, o, h1, h2, h3⟩ := hf fresh h.ndf fun x hx => by have := h.fle x hx; simpa using this
  have hs := h.step h1
  have i1 : itemD (dTr (.star k t)) (dN 1) = some (.str [k]) := by rw [dTr]; exact y_item1 _ _ _
  have i2 : itemD (dTr (.star k t)) (dN 2) = some (dTr t) := by rw [dTr]; exact y_item2 _ _ _ _
  have hg : decide (0 < fresh.length) = true := decide_eq_true (List.length_pos_iff.mpr hne)
  have hc := comp_ifS (r := eComp [8] (.nm 8) (iE (eP (pV 7))) (tE (e2P opNotIn (eP (pV 8)) (pV 5))) (eP (pV 8)) (ssE (dTr (.star k t)) w st o0 fresh seen (some (.fz (dN i))) (some (.fz (dNs told))))) (ρ0 := ssE (dTr (.star k t)) w st o0 fresh seen (some (.fz (dN i))) (some (.fz (dNs told)))) rfl (l := told) dN (fun x => !seen.contains x) (fun x => .fz (dN x)) (by simp_arith []) rfl (by have := h1.len; unfold line; omega) (fun x hx => by
    refine ⟨[some (.fz (dTr (.star k t))), some (.fz (.str w)), some (.fz (dNs st)), some (.fz (dNs o0)), some (.fz (dNs fresh)), some (.fz (dNs seen)), some (.fz (dN i)), some (.fz (dNs told)), some (.fz (dN x))], rfl, ?_, fun _ => ?_, rfl⟩
    · simp_arith [ninN]
    · simp_arith [])
  have hsl : ∀ x ∈ seen ++ told.filter fun x => !seen.contains x, x ≤ w.length := fun x hx => by
    obtain ⟨a, _, ht⟩ := hs.sound x hx
    have := ht.le.2
    simpa using this
  have hz : seen.length + (told.filter fun x => !seen.contains x).length ≤ line := by
    have := nodup_le hs.nds hsl
    rw [List.length_append] at this
    unfold line; omega
  refine ⟨told.filter fun x => !seen.contains x, seen ++ told.filter fun x => !seen.contains x, some (.fz (dNs told)), hs, ?_, rfl, fun hi => ?_⟩
  · by_cases hi : i = 0
    · simp_arith [y_len_map, hg, decide_eq_true hi, i2, h3, h2, hc, fr_mrg, hz, map_app2]
    · have hk : k ≠ 63 := hk.resolve_left hi
      simp_arith [y_len_map, hg, decide_eq_false hi, i1, bq1, decide_eq_false hk, i2, h3, h2, hc, fr_mrg, hz, map_app2]
  · obtain ⟨e1, e2⟩ := h.zero hi
    subst e1 e2
    have e3 : (told.filter fun x => !([] : List Nat).contains x) = told := List.filter_eq_self.mpr fun _ _ => rfl
    rw [e3]
    exact h1
theorem ss_loop {al w : List Nat} {g k : Nat} {t : Tr} (hlw : w.length ≤ 1000) (hf : EnF al w g t) (st o0 : List Nat) : ∀ (j i : Nat) (fresh seen : List Nat) (c6 c7 : Option O), SsI (ixs al w) (Lg al t) st i fresh seen → (k = 63 → 0 < i → EnOk (ixs al w) (Lg al t) st seen) →
    ∃ fresh' seen' c6' c7', (k ≠ 63 → SsI (ixs al w) (Lg al t) st (i + j) fresh' seen') ∧ (k = 63 → 0 < i + j → EnOk (ixs al w) (Lg al t) st seen') ∧ seen'.Nodup ∧ (∀ x ∈ seen', x ≤ w.length) ∧ forL (.nm 6) (ssB g) ((List.range' i j).map dN) (ssE (dTr (.star k t)) w st o0 fresh seen c6 c7) = .ok .nx (ssE (dTr (.star k t)) w st o0 fresh' seen' c6' c7')
  | 0, i, fresh, seen, c6, c7, h, h63 => ⟨fresh, seen, c6, c7, fun _ => h, h63, h.nds, fun x hx => by
      obtain ⟨a, _, ht⟩ := h.sound x hx
      have := ht.le.2
      simpa using this, rfl⟩
  | j + 1, i, fresh, seen, c6, c7, h, h63 => by
    rw [List.range'_succ, List.map_cons, x_forC]
    have ea : asgn (.nm 6) (.fz (dN i)) (ssE (dTr (.star k t)) w st o0 fresh seen c6 c7) = some (ssE (dTr (.star k t)) w st o0 fresh seen (some (.fz (dN i))) c7) := rfl
    have i1 : itemD (dTr (.star k t)) (dN 1) = some (.str [k]) := by rw [dTr]; exact y_item1 _ _ _
    rw [show i + (j + 1) = i + 1 + j by omega]
    by_cases hne : fresh = []
    · subst hne
      obtain ⟨f', s', a, b, r1, r2, r3, r4, r5⟩ := ss_loop (k := k) hlw hf st o0 j (i + 1) [] seen (some (.fz (dN i))) c7 h.skip (fun e _ => by
        by_cases hi : i = 0
        · obtain ⟨e1, e2⟩ := h.zero hi
          subst e2
          rw [← e1]
          exact ⟨List.nodup_nil, fun x => ⟨fun h => (by cases h), fun ⟨a, ha, _⟩ => (by cases ha)⟩⟩
        · exact h63 e (by omega))
      refine ⟨f', s', a, b, r1, r2, r3, r4, ?_⟩
      rw [ea]
      have hb : ssB g (ssE (dTr (.star k t)) w st o0 [] seen (some (.fz (dN i))) c7) = .ok .nx (ssE (dTr (.star k t)) w st o0 [] seen (some (.fz (dN i))) c7) := by
        have hg : decide False = false := rfl
        simp_arith [List.length_nil, Nat.lt_irrefl, hg]
      simp only [hb, R.bind]
      exact r5
    · by_cases hk : i = 0 ∨ k ≠ 63
      · obtain ⟨f1, s1, c1, t1, t2, t3, t4⟩ := ss_turn (k := k) hlw hf st o0 h hne hk c7
        obtain ⟨f', s', a, b, r1, r2, r3, r4, r5⟩ := ss_loop (k := k) hlw hf st o0 j (i + 1) f1 s1 (some (.fz (dN i))) c1 t1 (fun e _ => by
          rcases hk with hi | hk
          · exact t4 hi
          · exact absurd e hk)
        refine ⟨f', s', a, b, r1, r2, r3, r4, ?_⟩
        rw [ea]
        simp only [t2, R.bind]
        exact r5
      · have hi : i ≠ 0 := fun z => hk (.inl z)
        have hk6 : k = 63 := by
          by_cases z : k = 63
          · exact z
          · exact absurd (.inr z) hk
        -- nothing more is done
        have stay : ∀ (j i : Nat) (c6 : Option O), 0 < i → ∃ c6', forL (.nm 6) (ssB g) ((List.range' i j).map dN) (ssE (dTr (.star k t)) w st o0 fresh seen c6 c7) = .ok .nx (ssE (dTr (.star k t)) w st o0 fresh seen c6' c7) := by
          intro j
          induction j with
          | zero => intro i c6 _; exact ⟨c6, rfl⟩
          | succ j ih =>
            intro i c6 hi
            obtain ⟨c6', e⟩ := ih (i + 1) (some (.fz (dN i))) (by omega)
            refine ⟨c6', ?_⟩
            rw [List.range'_succ, List.map_cons, x_forC]
            have hg : decide (0 < fresh.length) = true := decide_eq_true (List.length_pos_iff.mpr hne)
            have hi0 : decide (i = 0) = false := decide_eq_false (by omega)
            have hb : ssB g (ssE (dTr (.star k t)) w st o0 fresh seen (some (.fz (dN i))) c7) = .ok .nx (ssE (dTr (.star k t)) w st o0 fresh seen (some (.fz (dN i))) c7) := by
              simp_arith [y_len_map, hg, hi0, i1, bq1, decide_eq_true hk6]
            have ea : asgn (.nm 6) (.fz (dN i)) (ssE (dTr (.star k t)) w st o0 fresh seen c6 c7) = some (ssE (dTr (.star k t)) w st o0 fresh seen (some (.fz (dN i))) c7) := rfl
            rw [ea]
            simp only [hb, R.bind]
            exact e
        obtain ⟨c6', e⟩ := stay (j + 1) i c6 (by omega)
        rw [List.range'_succ, List.map_cons, x_forC] at e
        refine ⟨fresh, seen, c6', c7, fun z => absurd hk6 z, fun _ _ => h63 hk6 (by omega), h.nds, fun x hx => ?_, e⟩
        obtain ⟨a, _, ht⟩ := h.sound x hx
        have := ht.le.2
        simpa using this
theorem starred_en {al w : List Nat} {g k : Nat} {t : Tr} (hk : k = 42 ∨ k = 43 ∨ k = 63) (hlw : w.length ≤ 1000) (hf : EnF al w g t) {st : List Nat} (nd : st.Nodup) (hst : ∀ x ∈ st, x ≤ w.length) :
    ∃ out o, EnOk (ixs al w) (starL k (Lg al t)) st out ∧ O.fr o = dNs out ∧ sem_law_starred (g + 1) [.fz (dTr (.star k t)), .fz (.str w), .fz (dNs st)] = .ok o [] := by
  have hl : w.length ≤ line := by unfold line; omega
  have i1 : itemD (dTr (.star k t)) (dN 1) = some (.str [k]) := by rw [dTr]; exact y_item1 _ _ _
  have i0 : SsI (ixs al w) (Lg al t) st 0 st [] := ⟨nd, List.nodup_nil, fun x hx => by rw [List.length_map]; exact hst x hx, fun x hx => (by cases hx), fun _ => ⟨rfl, rfl⟩, fun h => absurd h (Nat.lt_irrefl 0), .inr (Nat.zero_le _)⟩
  obtain ⟨o0, ho0⟩ : ∃ o0, o0 = (if k = 43 then [] else st) := ⟨_, rfl⟩
  have n0 : o0.Nodup ∧ ∀ x ∈ o0, x ≤ w.length := by
    rw [ho0]
    split
    · exact ⟨List.nodup_nil, fun x hx => (by cases hx)⟩
    · exact ⟨nd, hst⟩
  obtain ⟨fr, seen, c6, c7, r1, r2, r3, r4, r5⟩ := ss_loop (k := k) hlw hf st o0 (w.length + 2) 0 st [] none none i0 (fun _ h => absurd h (Nat.lt_irrefl 0))
  rw [Nat.zero_add] at r1 r2
  have mf : ∀ x, x ∈ (seen.filter fun x => !o0.contains x) ↔ x ∈ seen ∧ x ∉ o0 := fun x => by
    rw [List.mem_filter]; simp
  have n1 : (o0 ++ seen.filter fun x => !o0.contains x).Nodup := List.nodup_append.mpr ⟨n0.1, r3.filter _, fun a ha b hb e => ((mf b).mp hb).2 (e ▸ ha)⟩
  have b1 : ∀ x ∈ (o0 ++ seen.filter fun x => !o0.contains x), x ≤ w.length := fun x hx => by
    rcases List.mem_append.mp hx with hx | hx
    · exact n0.2 x hx
    · exact r4 x ((mf x).mp hx).1
  have len1 := nodup_le n1 b1
  have en : EnOk (ixs al w) (starL k (Lg al t)) st (o0 ++ seen.filter fun x => !o0.contains x) := by
    refine ⟨n1, fun x => ?_⟩
    rw [List.mem_append, mf]
    have hor : (x ∈ o0 ∨ (x ∈ seen ∧ x ∉ o0)) ↔ (x ∈ o0 ∨ x ∈ seen) := by
      constructor
      · rintro (h | ⟨h, _⟩)
        · exact .inl h
        · exact .inr h
      · rintro (h | h)
        · exact .inl h
        · by_cases z : x ∈ o0
          · exact .inl z
          · exact .inr ⟨h, z⟩
    rw [hor]
    rcases hk with rfl | rfl | rfl
    · have hs := (r1 (by decide))
      have he : SsI (ixs al w) (Lg al t) st ((ixs al w).length + 2) fr seen := by rw [List.length_map]; exact hs
      rw [he.end x, ho0, if_neg (by decide)]
      show _ ↔ ∃ a, a ∈ st ∧ Jn (ixs al w) (fun w => if (42 : Nat) = 42 then Star (Lg al t) w else _) a x
      simp only [if_true]
      constructor
      · rintro (h | ⟨a, ha, h⟩)
        · exact ⟨x, h, star_jn.mpr (.inl ⟨rfl, by rw [List.length_map]; exact hst x h⟩)⟩
        · exact ⟨a, ha, star_jn.mpr (.inr h)⟩
      · rintro ⟨a, ha, h⟩
        rcases star_jn.mp h with ⟨rfl, _⟩ | h
        · exact .inl ha
        · exact .inr ⟨a, ha, h⟩
    · have hs := (r1 (by decide))
      have he : SsI (ixs al w) (Lg al t) st ((ixs al w).length + 2) fr seen := by rw [List.length_map]; exact hs
      rw [he.end x, ho0, if_pos rfl]
      have e : ∀ a, Jn (ixs al w) (starL 43 (Lg al t)) a x ↔ TC (Jn (ixs al w) (Lg al t)) a x := fun a => plus_jn
      constructor
      · rintro (h | ⟨a, ha, h⟩)
        · cases h
        · exact ⟨a, ha, (e a).mpr h⟩
      · rintro ⟨a, ha, h⟩
        exact .inr ⟨a, ha, (e a).mp h⟩
    · have he := r2 rfl (by omega)
      rw [he.mem x, ho0, if_neg (by decide)]
      have e : ∀ a, Jn (ixs al w) (starL 63 (Lg al t)) a x ↔ (a = x ∧ x ≤ (ixs al w).length) ∨ Jn (ixs al w) (Lg al t) a x := fun a => opt_jn
      constructor
      · rintro (h | ⟨a, ha, h⟩)
        · exact ⟨x, h, (e x).mpr (.inl ⟨rfl, by rw [List.length_map]; exact hst x h⟩)⟩
        · exact ⟨a, ha, (e a).mpr (.inr h)⟩
      · rintro ⟨a, ha, h⟩
        rcases (e a).mp h with ⟨rfl, _⟩ | h
        · exact .inl ha
        · exact .inr ⟨a, ha, h⟩
  obtain ⟨srt, hp, hso⟩ := sort_dNs (l := o0 ++ seen.filter fun x => !o0.contains x) (by unfold line; omega)
  refine ⟨srt, .lst (srt.map fun k => .fz (dN k)), en.perm hp, by rw [fr_lst, fr_mrg], ?_⟩
  have hc := comp_ifS (r := eComp [8] (.nm 8) (iE (eP (pV 5))) (tE (e2P opNotIn (eP (pV 8)) (pV 3))) (eP (pV 8)) (ssE (dTr (.star k t)) w st o0 fr seen c6 c7)) (ρ0 := ssE (dTr (.star k t)) w st o0 fr seen c6 c7) rfl (l := seen) dN (fun x => !o0.contains x) (fun x => .fz (dN x)) (by simp_arith []) rfl (by have := nodup_le r3 r4; unfold line; omega) (fun x hx => by
    refine ⟨[some (.fz (dTr (.star k t))), some (.fz (.str w)), some (.fz (dNs st)), some (.fz (dNs o0)), some (.fz (dNs fr)), some (.fz (dNs seen)), c6, c7, some (.fz (dN x))], rfl, ?_, fun _ => ?_, rfl⟩
    · simp_arith [ninN]
    · simp_arith [])
  have hz : o0.length + (seen.filter fun x => !o0.contains x).length ≤ line := by
    rw [List.length_append] at len1
    unfold line; omega
  have h62 : w.length + 2 < 4611686018427387904 := by omega
  have rr : (List.range (w.length + 2)).map dN = (List.range' 0 (w.length + 2)).map dN := by rw [List.range_eq_range']
  rw [sem_law_starred]
  unfold body_law_starred
  simp only [ssE, dNs, List.map_nil] at r5 hc
  by_cases q : k = 43
  · rw [if_pos q] at ho0
    subst ho0
    simp only [dNs, List.map_nil] at r5 hc
    simp only [List.length_nil] at hz
    simp only [List.nil_append, dNs] at hso
    simp_arith [i1, bq1, decide_eq_true q, len_str hl, h62, rr, r5, hc, fr_mrg, hz, map_app2, hso]
  · rw [if_neg q] at ho0
    subst ho0
    simp_arith [i1, bq1, decide_eq_false q, len_str hl, h62, rr, r5, hc, fr_mrg, hz, map_app2, hso]
theorem ends_ok {al w : List Nat} (hw : ∀ c ∈ w, c ∈ al) (hlw : w.length ≤ 1000) : ∀ (d f : Nat), 2 * d + 2 ≤ f → ∀ t, TrOk al d t → EnF al w f t := by
  have n1 : ([108, 101, 116, 116, 101, 114] == ([97, 110, 121] : List Nat)) = false := by decide
  have n2 : ([115, 116, 97, 114] == ([97, 110, 121] : List Nat)) = false := by decide
  have n3 : ([114, 111, 119] == ([97, 110, 121] : List Nat)) = false := by decide
  have n4 : ([111, 114] == ([97, 110, 121] : List Nat)) = false := by decide
  have n5 : ([115, 116, 97, 114] == ([108, 101, 116, 116, 101, 114] : List Nat)) = false := by decide
  have n6 : ([114, 111, 119] == ([108, 101, 116, 116, 101, 114] : List Nat)) = false := by decide
  have n7 : ([111, 114] == ([108, 101, 116, 116, 101, 114] : List Nat)) = false := by decide
  have n8 : ([115, 116, 97, 114] == ([114, 111, 119] : List Nat)) = false := by decide
  have n9 : ([115, 116, 97, 114] == ([111, 114] : List Nat)) = false := by decide
  have na : ([111, 114] == ([114, 111, 119] : List Nat)) = false := by decide
  have q1 : ([97, 110, 121] == ([97, 110, 121] : List Nat)) = true := by decide
  have q2 : ([108, 101, 116, 116, 101, 114] == ([108, 101, 116, 116, 101, 114] : List Nat)) = true := by decide
  have q4 : ([114, 111, 119] == ([114, 111, 119] : List Nat)) = true := by decide
  have q5 : ([111, 114] == ([111, 114] : List Nat)) = true := by decide
  have hl : w.length ≤ line := by unfold line; omega
  have fr1 : ∀ l : List Nat, frs (l.map fun a => O.fz (dN (a + 1))) = (l.map (· + 1)).map dN := fun l => by
    rw [y_frsfz, List.map_map]; rfl
  have cany : ∀ g, EnF al w (g + 1) .any := fun g st nd hst => by
    have en := any_en (W := ixs al w) nd
    rw [List.length_map] at en
    refine ⟨_, .lst ((st.filter fun a => decide (a < w.length)).map fun a => .fz (dN (a + 1))), en.imp fun w => by rw [Lg], by rw [fr_lst, fr1], ?_⟩
    have hc := comp_ifS (r := eComp [5] (.nm 5) (iE (eP (pV 2))) (tE (e2 opLt (eP (pV 5)) (e1P opLen (pV 1)))) (e2 opAdd (eP (pV 5)) (eC (dN 1))) [some (.fz (dTr .any)), some (.fz (.str w)), some (.fz (dNs st)), none, none, none]) (ρ0 := [some (.fz (dTr .any)), some (.fz (.str w)), some (.fz (dNs st)), none, none, none]) rfl (l := st) dN (fun a => decide (a < w.length)) (fun a => .fz (dN (a + 1))) (by simp_arith []) rfl (by have := nodup_le nd hst; unfold line; omega) (fun x hx => by
      refine ⟨[some (.fz (dTr .any)), some (.fz (.str w)), some (.fz (dNs st)), none, none, some (.fz (dN x))], rfl, ?_, fun _ => ?_, rfl⟩
      · simp_arith [len_str hl]
      · simp_arith [])
    rw [sem_law_ends]
    unfold body_law_ends
    rw [dTr] at hc ⊢
    simp_arith [q1, hc]
  have cltr : ∀ g c, c ∈ al → EnF al w (g + 1) (.ltr c) := fun g c hcin st nd hst => by
    have en := ltr_en hw hcin nd
    refine ⟨_, .lst ((st.filter fun a => decide (a < w.length) && decide (w.getD a 0 = c)).map fun a => .fz (dN (a + 1))), en.imp fun w => by rw [Lg], by rw [fr_lst, fr1], ?_⟩
    have it1 : itemD (dTr (.ltr c)) (dN 1) = some (.str [c]) := by rw [dTr]; exact y_item1 _ _ _
    have hc := comp_ifS (r := eComp [5] (.nm 5) (iE (eP (pV 2))) (tAnd (tE (e2 opLt (eP (pV 5)) (e1P opLen (pV 1)))) (tE (e2 opEq (eP (pIx (pV 1) (pV 5))) (eP (pIx (pV 0) (pC (dN 1))))))) (e2 opAdd (eP (pV 5)) (eC (dN 1))) [some (.fz (dTr (.ltr c))), some (.fz (.str w)), some (.fz (dNs st)), none, none, none]) (ρ0 := [some (.fz (dTr (.ltr c))), some (.fz (.str w)), some (.fz (dNs st)), none, none, none]) rfl (l := st) dN (fun a => decide (a < w.length) && decide (w.getD a 0 = c)) (fun a => .fz (dN (a + 1))) (by simp_arith []) rfl (by have := nodup_le nd hst; unfold line; omega) (fun x hx => by
      refine ⟨[some (.fz (dTr (.ltr c))), some (.fz (.str w)), some (.fz (dNs st)), none, none, some (.fz (dN x))], rfl, ?_, fun _ => ?_, rfl⟩
      · by_cases q : x < w.length
        · have ei := item_str q hl
          simp_arith [len_str hl, decide_eq_true q, ei, it1, bq1, Bool.true_and]
        · simp_arith [len_str hl, decide_eq_false q, Bool.false_and]
      · simp_arith [])
    rw [sem_law_ends]
    unfold body_law_ends
    rw [dTr] at hc ⊢
    simp_arith [n1, q2, hc]
  have crow : ∀ g ts, (∀ t ∈ ts, EnF al w g t) → EnF al w (g + 1) (.row ts) := fun g ts hts st nd hst => by
    obtain ⟨out, c3, en, hf⟩ := row_en (dTr (.row ts)) ts hts st none nd hst
    refine ⟨out, .fz (dNs out), en.imp fun w => by rw [Lg], rfl, ?_⟩
    rw [sem_law_ends]
    unfold body_law_ends
    rw [dTr, dTrs_map] at hf ⊢
    simp_arith [n3, n6, q4, hf]
  have calt : ∀ g ts, (∀ t ∈ ts, EnF al w g t) → EnF al w (g + 1) (.alt ts) := fun g ts hts st nd hst => by
    obtain ⟨out, c3, n0, b0, mem, hf⟩ := or_en hlw (dTr (.alt ts)) nd hst ts hts [] none List.nodup_nil (fun _ h => by cases h)
    have len := nodup_le n0 b0
    obtain ⟨srt, hp, hso⟩ := sort_dNs (l := out) (by unfold line; omega)
    have en : EnOk (ixs al w) (Lg al (.alt ts)) st out := ⟨n0, fun x => by
      rw [mem, Lg]
      constructor
      · rintro (h | h)
        · cases h
        · exact h
      · exact .inr⟩
    refine ⟨srt, .lst (srt.map fun k => .fz (dN k)), en.perm hp, by rw [fr_lst, fr_mrg], ?_⟩
    rw [sem_law_ends]
    unfold body_law_ends
    simp only [dNs, List.map_nil] at hf
    rw [dTr, dTrs_map] at hf ⊢
    simp_arith [n4, n7, na, q5, hf, hso]
  have cstar : ∀ g k t, (k = 42 ∨ k = 43 ∨ k = 63) → EnF al w g t → EnF al w (g + 2) (.star k t) := fun g k t hk ht st nd hst => by
    obtain ⟨out, o, en, ho, hs⟩ := starred_en hk hlw ht nd hst
    refine ⟨out, o, en.imp fun w => by rw [Lg], ho, ?_⟩
    rw [sem_law_ends]
    unfold body_law_ends
    rw [dTr] at hs ⊢
    simp_arith [n2, n5, n8, n9, hs]
  intro d
  induction d with
  | zero =>
    intro f hf t ht
    obtain ⟨g, rfl⟩ : ∃ g, f = g + 1 := ⟨f - 1, by omega⟩
    cases t with
    | any => exact cany g
    | ltr c => exact cltr g c ht
    | star k t => exact ht.elim
    | row ts =>
      have ht : ts = [] := ht
      subst ht
      exact crow g [] fun _ h => by cases h
    | alt ts => exact ht.elim
  | succ d ih =>
    intro f hf t ht
    obtain ⟨g, rfl⟩ : ∃ g, f = g + 2 := ⟨f - 2, by omega⟩
    cases t with
    | any => exact cany _
    | ltr c => exact cltr _ c ht
    | star k t => exact cstar g k t ht.1 (ih g (by omega) t ht.2)
    | row ts => exact crow (g + 1) ts fun t h => ih (g + 1) (by omega) t (ht.2 t h)
    | alt ts => exact calt (g + 1) ts fun t h => ih (g + 1) (by omega) t (ht.2 t h)
theorem fits_ok {al w : List Nat} (hw : ∀ c ∈ w, c ∈ al) (hlw : w.length ≤ 1000) {t : Tr} (ht : TrOk al 3 t) : ∃ b : Bool, (b = true ↔ Lg al t (ixs al w)) ∧ sem_law_fits [.fz (dTr t), .fz (.str w)] = .ok (.fz (.bl b)) [] := by
  have hl : w.length ≤ line := by unfold line; omega
  obtain ⟨out, o, en, ho, hs⟩ := ends_ok hw hlw 3 12 (by decide) t ht [0] (by simp) (fun x hx => by rw [List.mem_singleton.mp hx]; exact Nat.zero_le _)
  have hs : sem_law_ends 12 [.fz (dTr t), .fz (.str w), .fz (.lst [dN 0])] = .ok o [] := hs
  refine ⟨out.contains w.length, ?_, ?_⟩
  · have : out.contains w.length = true ↔ w.length ∈ out := by simp
    rw [this, en.mem]
    have full : seg (ixs al w) 0 w.length = ixs al w := by
      unfold seg
      rw [List.drop_zero, List.take_of_length_le (by rw [List.length_map]; exact Nat.le_refl _)]
    constructor
    · rintro ⟨a, ha, h1, h2, h⟩
      rw [List.mem_singleton.mp ha, full] at h
      exact h
    · intro h
      exact ⟨0, List.mem_singleton.mpr rfl, Nat.zero_le _, by rw [List.length_map]; exact Nat.le_refl _, by rw [full]; exact h⟩
  · unfold sem_law_fits body_law_fits
    simp_arith [len_str hl, hs, ho, inN]
theorem codes_ok {al w : List Nat} (hw : ∀ c ∈ w, c ∈ al) (hlw : w.length ≤ line) : ∃ o, sem_codes [.fz (.str al), .fz (.str w)] = .ok o [] ∧ o.fr = dNs (ixs al w) := by
  unfold sem_codes body_codes
  have hc := comp_of (r := eComp [2] (.nm 2) (iE (eP (pV 1))) tT (eM isSL opIndex (eP (pV 0)) (eP (pV 2))) [some (.fz (.str al)), some (.fz (.str w)), none]) rfl (l := w) (fun c => D.str [c]) (fun c => .fz (dN (ix al c))) (by simp_arith []) rfl hlw (fun c hcw => by
    refine ⟨[some (.fz (.str al)), some (.fz (.str w)), some (.fz (.str [c]))], rfl, ?_, rfl⟩
    simp_arith [index_str (findN_some (hw c hcw)).1])
  refine ⟨.lst (w.map fun c => .fz (dN (ix al c))), ?_, ?_⟩
  · simp_arith [hc]
  · rw [fr_lst, y_frsfz]
    show _ = D.lst ((w.map (ix al)).map dN)
    rw [List.map_map]; rfl
def dPat (al text : List Nat) (N : NetM) : D := .ins "Pattern" [("alphabet", .str al), ("text", .str text), ("network", dNet N)]
theorem pt_net (al text : List Nat) (N : NetM) : fldO (.fz (dPat al text N)) "network" = some (.fz (dNet N)) := by rfl
theorem pt_alph (al text : List Nat) (N : NetM) : fldO (.fz (dPat al text N)) "alphabet" = some (.fz (.str al)) := by rfl
theorem pt_text (al text : List Nat) (N : NetM) : fldO (.fz (dPat al text N)) "text" = some (.fz (.str text)) := by rfl
theorem matches_ok {al text w : List Nat} {m : Nat} {N : NetM} (h : NtOk m N) (hw : ∀ c ∈ w, c ∈ al) (hlw : w.length ≤ line) : sem_matches [.fz (dPat al text N), .fz (.str w)] = .ok (.fz (.bl (acB N (rdN N [0] (ixs al w))))) [] := by
  obtain ⟨o, e1, e2⟩ := codes_ok hw hlw
  have ed := describes_ok h (ixs al w)
  unfold sem_matches body_matches
  simp_arith [pt_net, pt_alph, e1, e2, ed]
theorem law_words4_ok {al : List Nat} (ha : al.length ≤ 5) {n : Nat} (hn : n ≤ 5) : ∃ ws : List (List Nat), (∀ w ∈ ws, Wd' al w ∧ w.length ≤ n) ∧ ws.length ≤ 2 * 5 ^ n ∧ sem_law_words [.fz (.str al), .fz (dN n)] = .ok (.fz (.lst (ws.map .str))) [] := by
  have all : al.length ≤ line := by unfold line; omega
  have n62 : n < 4611686018427387904 := by omega
  unfold sem_law_words body_law_words
  simp_arith [n62]
  generalize hf : forL _ _ _ _ = r
  obtain ⟨⟨out, last, x4, x5, x6⟩, rfl, h1, h2, h3, h4⟩ := for_of hf (fun (p : List (List Nat) × List (List Nat) × Option O × Option O × Option O) => [some (.fz (.str al)), some (.fz (dN n)), some (.fz (.lst (p.1.map .str))), some (.fz (.lst (p.2.1.map .str))), p.2.2.1, p.2.2.2.1, p.2.2.2.2, none])
    (fun t p => (∀ w ∈ p.1, Wd' al w ∧ w.length ≤ t) ∧ (∀ w ∈ p.2.1, Wd' al w ∧ w.length ≤ t) ∧ p.2.1.length ≤ 5 ^ t ∧ p.1.length ≤ 2 * 5 ^ t) ([[]], [[]], none, none, none) rfl (by
      refine ⟨fun w hw => ?_, fun w hw => ?_, by decide, by decide⟩ <;> (rw [List.mem_singleton.mp hw]; exact ⟨(fun c h => by cases h), Nat.le_refl _⟩)) (by
    rintro t d ⟨out, last, x4, x5, x6⟩ hd ⟨h1, h2, h3, h4⟩
    obtain ⟨t', ht', rfl⟩ := map_at hd
    obtain ⟨rfl, htn⟩ := range_at ht'
    simp only at h1 h2 h3 h4
    have p5 : (5 : Nat) ^ (t' + 1) ≤ 5 ^ 5 := Nat.pow_le_pow_right (by decide) (by omega)
    have ps : (5 : Nat) ^ (t' + 1) = 5 ^ t' * 5 := Nat.pow_succ ..
    have e5 : (5 : Nat) ^ 5 = 3125 := by decide
    simp_arith []
    generalize hf2 : forL _ _ _ _ = r
    obtain ⟨⟨lng, y6⟩, rfl, hl⟩ := for_of hf2 (fun (p : List (List Nat) × Option O) => [some (.fz (.str al)), some (.fz (dN n)), some (.fz (.lst (out.map .str))), some (.fz (.lst (last.map .str))), some (.fz (dN t')), some (.fz (.lst (p.1.map .str))), p.2, none])
      (fun i p => p.1 = (last.take i).flatMap fun w => al.map fun c => w ++ [c]) ([], x6) rfl (by rw [List.take_zero]; rfl) (by
      rintro i d ⟨lng, y6⟩ hd hl
      obtain ⟨w, hw, rfl⟩ := map_at hd
      simp only at hl
      obtain ⟨_, wl⟩ := h2 w (List.mem_of_getElem? hw)
      simp_arith []
      generalize hc : eComp _ _ _ _ _ _ = r
      obtain rfl := comp_of hc (l := al) (fun c => .str [c]) (fun c => O.fz (.str (w ++ [c]))) (by simp_arith [all]) rfl all (by
        intro c hcm
        have ad : opAdd (.str w) (.str [c]) = some (.fz (.str (w ++ [c]))) := add_str (by show w.length + 1 ≤ line; unfold line; omega)
        refine ⟨_, rfl, ?_, rfl⟩
        simp_arith [hide, List.foldl, ad])
      have ln : lng.length + al.length ≤ line := by
        rw [hl, List.length_flatMap]
        simp only [List.length_map]
        have : ((last.take i).map fun _ => al.length).sum = (last.take i).length * al.length := by rw [List.map_const', List.sum_replicate_nat]
        rw [this]
        have l1 : (last.take i).length ≤ 5 ^ t' := by rw [List.length_take]; omega
        have := Nat.mul_le_mul l1 ha
        unfold line
        omega
      refine ⟨(lng ++ al.map fun c => w ++ [c], some (.fz (.str w))), ?_, ?_⟩
      · simp_arith [y_frsfz, frs_app, y_len_map, ln, List.map_append, List.map_map, Function.comp_def]
      · show lng ++ _ = _
        rw [hl, take_at hw, List.flatMap_append]; simp)
    rw [List.length_map] at hl
    simp only [List.take_length] at hl
    have m1 : ∀ w ∈ lng, Wd' al w ∧ w.length ≤ t' + 1 := fun w hw => by
      rw [hl] at hw
      obtain ⟨v, hv, hw⟩ := List.mem_flatMap.mp hw
      obtain ⟨c, hc, rfl⟩ := List.mem_map.mp hw
      obtain ⟨g1, g2⟩ := h2 v hv
      refine ⟨fun d hd => ?_, by rw [List.length_append]; exact Nat.succ_le_succ g2⟩
      rcases List.mem_append.mp hd with h | h
      · exact g1 d h
      · rw [List.mem_singleton.mp h]; exact hc
    have l1 : lng.length ≤ 5 ^ (t' + 1) := by
      rw [hl, List.length_flatMap]
      simp only [List.length_map]
      have : (last.map fun _ => al.length).sum = last.length * al.length := by rw [List.map_const', List.sum_replicate_nat]
      rw [this, ps]
      exact Nat.mul_le_mul h3 ha
    have ln : out.length + lng.length ≤ line := by unfold line; omega
    refine ⟨(out ++ lng, lng, some (.fz (dN t')), some (.fz (.lst (lng.map .str))), y6), ?_, fun w hw => ?_, m1, l1, by show (out ++ lng).length ≤ _; rw [List.length_append]; omega⟩
    · simp_arith [y_frsfz, frs_app, List.length_map, ln, List.map_append]
    · rcases List.mem_append.mp hw with h | h
      · obtain ⟨g1, g2⟩ := h1 w h
        exact ⟨g1, by omega⟩
      · exact m1 w h)
  rw [List.length_map, List.length_range] at h1 h4
  refine ⟨out, h1, h4, ?_⟩
  simp_arith []
theorem lpattern_ok {al : List Nat} (h0 : 0 < al.length) (h1 : al.length ≤ line) (L : List Int) (n : Nat) : ∃ t n' o, TrOk al 3 t ∧ (txM t 0).length ≤ 12 ∧ O.fr o = .lst [dTr t, .str (txM t 0)] ∧ sem_law_pattern [boxO L n, .fz (.str al)] = .ok o [some (boxO L n')] := by
  have hr4 : (List.range 4).map dN = [dN 0, dN 1, dN 2, dN 3] := rfl
  have lb : LB 3 = 132 := rfl
  let body : Stx := sBlk [
    (sSet (.nm 3) (eFz (eCall (sem_law_tree 12) [.io 0, .v (eP (pV 1)), .v (eC (dN 3))]))),
    (sSet (.nm 4) (eFz (eCall (sem_law_text_of 12) [.v (eP (pV 3)), .v (eC (dN 0))]))),
    (sIf (tE (e2 opLe (e1P opLen (pV 4)) (eC (dN 12)))) (sBlk [
      (sRet (eLst [(eP (pV 3)), (eP (pV 4))]))]) sNx)]
  have step : ∀ (n k : Nat) (c3 c4 : Option O), (∃ t n' o, TrOk al 3 t ∧ (txM t 0).length ≤ 12 ∧ O.fr o = .lst [dTr t, .str (txM t 0)] ∧ ∃ c3' c4', body [some (boxO L n), some (.fz (.str al)), some (.fz (dN k)), c3, c4] = .ok (.ret o) [some (boxO L n'), some (.fz (.str al)), some (.fz (dN k)), c3', c4']) ∨
      ∃ n' c3' c4', body [some (boxO L n), some (.fz (.str al)), some (.fz (dN k)), c3, c4] = .ok .nx [some (boxO L n'), some (.fz (.str al)), some (.fz (dN k)), c3', c4'] := by
    intro n k c3 c4
    obtain ⟨t, n', o, hT, ho, et⟩ := tree_ok h0 h1 L 3 12 (by decide) n
    obtain ⟨htl, ett⟩ := text_ok 3 12 (by decide) (by decide) t hT 0 (by decide)
    have hl : (txM t 0).length ≤ line := by unfold line; omega
    by_cases q : (txM t 0).length ≤ 12
    · left
      refine ⟨t, n', .lst [.fz (dTr t), .fz (.str (txM t 0))], hT, q, rfl, some (.fz (dTr t)), some (.fz (.str (txM t 0))), ?_⟩
      show sBlk _ _ = _
      simp_arith [et, ho, ett, len_str hl, decide_eq_true q]
    · right
      refine ⟨n', some (.fz (dTr t)), some (.fz (.str (txM t 0))), ?_⟩
      show sBlk _ _ = _
      simp_arith [et, ho, ett, len_str hl, decide_eq_false q]
  have loop : ∀ (r : List Nat) (n : Nat) (c2 c3 c4 : Option O), (∃ t n' o, TrOk al 3 t ∧ (txM t 0).length ≤ 12 ∧ O.fr o = .lst [dTr t, .str (txM t 0)] ∧ ∃ c2' c3' c4', forL (.nm 2) body (r.map dN) [some (boxO L n), some (.fz (.str al)), c2, c3, c4] = .ok (.ret o) [some (boxO L n'), some (.fz (.str al)), c2', c3', c4']) ∨
      ∃ n' c2' c3' c4', forL (.nm 2) body (r.map dN) [some (boxO L n), some (.fz (.str al)), c2, c3, c4] = .ok .nx [some (boxO L n'), some (.fz (.str al)), c2', c3', c4'] := by
    intro r
    induction r with
    | nil => intro n c2 c3 c4; exact .inr ⟨n, c2, c3, c4, rfl⟩
    | cons k r ih =>
      intro n c2 c3 c4
      have unf : forL (.nm 2) body ((k :: r).map dN) [some (boxO L n), some (.fz (.str al)), c2, c3, c4] = (body [some (boxO L n), some (.fz (.str al)), some (.fz (dN k)), c3, c4]).bind fun f ρ => match f with
        | .nx => forL (.nm 2) body (r.map dN) ρ
        | .brk => .ok .nx ρ
        | .ret o => .ok (.ret o) ρ := rfl
      rw [unf]
      rcases step n k c3 c4 with ⟨t, n', o, a1, a2, a3, c3', c4', e⟩ | ⟨n', c3', c4', e⟩
      · exact .inl ⟨t, n', o, a1, a2, a3, some (.fz (dN k)), c3', c4', by rw [e]; rfl⟩
      · rcases ih n' (some (.fz (dN k))) c3' c4' with ⟨t, n2, o, a1, a2, a3, c2', c3'', c4'', e2⟩ | ⟨n2, c2', c3'', c4'', e2⟩
        · exact .inl ⟨t, n2, o, a1, a2, a3, c2', c3'', c4'', by rw [e]; exact e2⟩
        · exact .inr ⟨n2, c2', c3'', c4'', by rw [e]; exact e2⟩
  have hlp := loop (List.range 4) n none none none
  rcases hlp with ⟨t, n', o, a1, a2, a3, c2', c3', c4', e⟩ | ⟨n', c2', c3', c4', e⟩
  · refine ⟨t, n', o, a1, a2, a3, ?_⟩
    unfold sem_law_pattern body_law_pattern
    simp_arith []
    have e : forL (.nm 2) (sBlk _) _ _ = _ := e
    rw [e]
    simp_arith []
  · have hi := item_str (i := 0) h0 h1
    refine ⟨.ltr (al.getD 0 0), n', .lst [.lst [.fz (.str [108, 101, 116, 116, 101, 114]), .fz (.str [al.getD 0 0])], .fz (.str [al.getD 0 0])], TrOk.ltr (getD_mem 0 h0) 3, by rw [txM]; show 1 ≤ 12; decide, by rw [dTr, txM]; rfl, ?_⟩
    unfold sem_law_pattern body_law_pattern
    simp_arith []
    have e : forL (.nm 2) (sBlk _) _ _ = _ := e
    rw [e]
    simp_arith [hi]
/-- all letters -/
def NoSig' (al : List Nat) : Prop := ∀ c ∈ al, 97 ≤ c ∧ c ≤ 122
theorem lts_sig (z k : Nat) : NoSig' ((LTS.drop z).take k) := fun c hc => by
  have h : c ∈ LTS := List.mem_of_mem_drop (List.mem_of_mem_take hc)
  have : ∀ c ∈ LTS, 97 ≤ c ∧ c ≤ 122 := by decide
  exact this c h
theorem isnot_ft (f : Option (List Nat)) : opIsNot (dFt f) .non = some (.fz (.bl f.isSome)) := by cases f <;> rfl
theorem setP0 (x : O) : setFldO "alphabet" x (.ins "Pattern" []) = some (.ins "Pattern" [("alphabet", x)]) := by rfl
theorem setP1 (a x : O) : setFldO "text" x (.ins "Pattern" [("alphabet", a)]) = some (.ins "Pattern" [("alphabet", a), ("text", x)]) := by rfl
theorem setP2 (a t x : O) : setFldO "network" x (.ins "Pattern" [("alphabet", a), ("text", t)]) = some (.ins "Pattern" [("alphabet", a), ("text", t), ("network", x)]) := by rfl
def oPat (al text : List Nat) (N : NetM) : O := .ins "Pattern" [("alphabet", .fz (.str al)), ("text", .fz (.str text)), ("network", netO N)]
theorem pattern_ok {al text : List Nat} (hal : al.length ≤ line) (ht : text.length ≤ 10000) {R : ScM × Nat × Option (List Nat)} (hR : scM al [] text 0 sc0 = R) (h : R.2.2 = none) :
    sem_Pattern_init [.ins "Pattern" [], .fz (.str al), .fz (.str text)] = .ok (.fz .non) [some (oPat al text (netM R.1))] := by
  have e := scanned_ok al text [] 0 (Nat.zero_le _) hal ht
  rw [List.drop_zero, hR] at e
  obtain ⟨m, hm, h1, h2⟩ := scM_ok (t := text) (k := 0) (stops := []) sc0_ok (Nat.zero_le _) (by rw [hR]; exact h)
  rw [hR] at h1 h2
  obtain ⟨o', en⟩ := network_ok hm al h1 h2
  obtain ⟨s, k, f⟩ := R
  have h : f = none := h
  subst h
  unfold sem_Pattern_init body_Pattern_init
  have en2 := en
  simp only at en2
  simp_arith [e, scO, isnot_ft, Option.isSome_none, setP0, setP1, setP2, x_eMeth, en2]
  rfl
theorem fr_oPat (al text : List Nat) (N : NetM) : (oPat al text N).fr = dPat al text N := by rfl
theorem noSig_of {al : List Nat} (h : NoSig' al) : NoSig al := fun c hc => by
  have h1 := h c hc
  refine ⟨?_, ?_, ?_, ?_, ?_, ?_, ?_⟩ <;> omega
theorem ne_bl (a b : Bool) : opNe (.bl a) (.bl b) = some (.fz (.bl (a != b))) := by cases a <;> cases b <;> rfl
theorem inst_bl (a : Bool) : opIsInst "bool" (.bl a) = some (.fz (.bl true)) := by rfl
theorem some_ok {al : List Nat} (h0 : 0 < al.length) (h5 : al.length ≤ 5) (L : List Int) (n : Nat) : ∃ (ws : List (List Nat)) (n' : Nat) (o : O), (∀ w ∈ ws, (∀ c ∈ w, c ∈ al) ∧ w.length ≤ 14) ∧ o.fr = .lst (ws.map .str) ∧ sem_law_some_words [boxO L n, .fz (.str al), .fz (dN 4), .fz (dN 5)] = .ok o [some (boxO L n')] := by
  obtain ⟨ws, hws, hwl, ew⟩ := law_words4_ok h5 (n := 4) (by decide)
  obtain ⟨os, n', hr, hl, ys, hyl, hys, hf⟩ := comp_st_at (r := eComp [4] (.nm 4) (iRange1 (eP (pV 3))) tT (eCall sem_law_word [.io 0, .v (eP (pV 1)), .v (eC (dN 14))]) [some (boxO L n), some (.fz (.str al)), some (.fz (dN 4)), some (.fz (dN 5)), none]) rfl (l := List.range 5) dN (fun n => [some (boxO L n), some (.fz (.str al)), some (.fz (dN 4)), some (.fz (dN 5)), none]) n
    (fun os _ => ∃ ys : List (List Nat), ys.length = os.length ∧ (∀ w ∈ ys, (∀ c ∈ w, c ∈ al) ∧ w.length ≤ 14) ∧ os = ys.map fun y => .fz (.str y)) (by simp_arith []) (fun s => rfl) (by decide) ⟨[], rfl, fun _ h => (by cases h), rfl⟩ (by
      rintro i acc s hi ⟨ys, q0, q1, q2⟩
      obtain ⟨w, n', hl, hw, e⟩ := word_ok L s al 14 h0 (by unfold line; omega) (by decide)
      refine ⟨[some (boxO L s), some (.fz (.str al)), some (.fz (dN 4)), some (.fz (dN 5)), some (.fz (dN i))], .fz (.str w), n', [some (boxO L n'), some (.fz (.str al)), some (.fz (dN 4)), some (.fz (dN 5)), some (.fz (dN i))], rfl, ?_, rfl, ys ++ [w], by simp [q0], ?_, ?_⟩
      · simp_arith [e]
      · intro x hx
        rcases List.mem_append.mp hx with hx | hx
        · exact q1 x hx
        · rw [List.mem_singleton.mp hx]; exact ⟨hw, hl⟩
      · rw [q2, List.map_append]; rfl) (fun s s' => rfl)
  have hz : (ws.map D.str).length + (ys.map D.str).length ≤ line := by
    rw [List.length_map, List.length_map, hyl, hl]
    have : (2 : Nat) * 5 ^ 4 = 1250 := by decide
    show ws.length + 5 ≤ line
    unfold line; omega
  refine ⟨ws ++ ys, n', .lst (((ws ++ ys).map D.str).map .fz), ?_, ?_, ?_⟩
  · intro w hw
    rcases List.mem_append.mp hw with hw | hw
    · exact ⟨(hws w hw).1, by have := (hws w hw).2; omega⟩
    · exact hys w hw
  · rw [fr_lst, frs_mapfz]
  · unfold sem_law_some_words body_law_some_words
    subst hf
    rw [List.length_map, List.length_map] at hz
    simp_arith [ew, hr, y_frsfz, hz, List.map_append]
abbrev lawB : Stx := sBlk [
      (sSet (.nm 7) (eFz (eCall sem_matches [.v (eP (pV 5)), .v (eP (pV 6))]))),
      (sIf (tOr (tNot (tE (e1 (opIsInst "bool") (eP (pV 7))))) (tE (e2 opNe (eP (pV 7)) (eCall sem_law_fits [.v (eP (pIx (pV 4) (pC (dN 0)))), .v (eP (pV 6))])))) (sBlk [
        (sRet (eC (.bl false)))]) sNx)]
def lawE (ns L : List Int) (n : Nat) (c2 c3 c4 c5 c6 c7 : Option O) : Env := [some (.fz (.scr ns)), some (boxO L n), c2, c3, c4, c5, c6, c7]
theorem law_true (ns : List Int) (_ : ns.length ≤ 63) : ∃ outs, sem_law [.fz (.scr ns)] = .ok (.fz (.bl true)) outs := by
  obtain ⟨L, eL⟩ := row_ok ns 40 (by decide)
  refine ⟨[], ?_⟩
  unfold sem_law body_law
  simp_arith [eL]
  generalize hfor : forL _ _ _ _ = r
  obtain ⟨⟨n, c2, c3, c4, c5, c6, c7⟩, rfl, _⟩ := for_of hfor (fun (p : Nat × Option O × Option O × Option O × Option O × Option O × Option O) => lawE ns L p.1 p.2.1 p.2.2.1 p.2.2.2.1 p.2.2.2.2.1 p.2.2.2.2.2.1 p.2.2.2.2.2.2) (fun _ _ => True) (0, none, none, none, none, none, none) rfl trivial (by
    rintro i d ⟨n, c2, c3, c4, c5, c6, c7⟩ hd _
    obtain ⟨j, hj, rfl⟩ := map_at hd
    obtain ⟨k, hk, ek⟩ := draw_ok L n 3 (by decide)
    obtain ⟨z, hz, ez⟩ := alph_ok L (n + 1) (1 + k) (by omega) (by omega)
    have hsig := lts_sig z (1 + k)
    have hlz : 0 < ((LTS.drop z).take (1 + k)).length ∧ ((LTS.drop z).take (1 + k)).length ≤ 5 := by
      have : LTS.length = 10 := rfl
      simp [this]
      omega
    generalize (LTS.drop z).take (1 + k) = al at *
    have hal : al.length ≤ line := by unfold line; omega
    obtain ⟨t, n2, o1, hT, htl, ho1, ep⟩ := lpattern_ok hlz.1 hal L (n + 2)
    obtain ⟨s, m, hsc, hm, hok, hup, hCl, hFol, hPL⟩ := pattern_reads (noSig_of hsig) hT htl
    have hR : scM al [] (txM t 0) 0 sc0 = (s, (txM t 0).length, none) := by
      have := hsc [] [] 0 (fun c _ => by simp)
      rw [List.append_nil, scM_nil, Nat.zero_add] at this
      rw [this, hup]; rfl
    have em := pattern_ok hal (text := txM t 0) (by omega) hR rfl
    have hN := net_ok hm hok hFol hCl
    have hnr := net_reads hm hok hFol hCl
    simp only at em
    obtain ⟨ws, n3, o2, hws, ho2, es⟩ := some_ok hlz.1 hlz.2 L n2
    have hsl : (al == al) = true := by simp
    have htt : (txM t 0 == txM t 0) = true := by simp
    have inner : ∃ c6' c7', forL (.nm 6) lawB (ws.map D.str) (lawE ns L n3 (some (.fz (dN j))) (some (.fz (.str al))) (some (.fz (.lst [dTr t, .str (txM t 0)]))) (some (.fz (dPat al (txM t 0) (netM s)))) c6 c7) = .ok .nx (lawE ns L n3 (some (.fz (dN j))) (some (.fz (.str al))) (some (.fz (.lst [dTr t, .str (txM t 0)]))) (some (.fz (dPat al (txM t 0) (netM s)))) c6' c7') := by
      obtain ⟨⟨a, b⟩, e1, _⟩ := for_of (r := forL (.nm 6) lawB (ws.map D.str) (lawE ns L n3 (some (.fz (dN j))) (some (.fz (.str al))) (some (.fz (.lst [dTr t, .str (txM t 0)]))) (some (.fz (dPat al (txM t 0) (netM s)))) c6 c7)) rfl (fun (p : Option O × Option O) => lawE ns L n3 (some (.fz (dN j))) (some (.fz (.str al))) (some (.fz (.lst [dTr t, .str (txM t 0)]))) (some (.fz (dPat al (txM t 0) (netM s)))) p.1 p.2) (fun _ _ => True) (c6, c7) rfl trivial (by
        rintro i d ⟨c6, c7⟩ hd _
        obtain ⟨w, hw, rfl⟩ := map_at hd
        obtain ⟨hw1, hw2⟩ := hws w (List.mem_of_getElem? hw)
        have e1 := matches_ok (al := al) (text := txM t 0) hN hw1 (by unfold line; omega)
        obtain ⟨b, hb, e2⟩ := fits_ok hw1 (by omega) hT
        have eb : acB (netM s) (rdN (netM s) [0] (ixs al w)) = b := by
          rw [Bool.eq_iff_iff, hnr, hPL, hb]
        rw [eb] at e1
        have hbb : (b != b) = false := by simp
        refine ⟨(some (.fz (.str w)), some (.fz (.bl b))), ?_, trivial⟩
        simp_arith [lawE, e1, inst_bl, e2, ne_bl, hbb])
      exact ⟨a, b, e1⟩
    obtain ⟨c6', c7', hin⟩ := inner
    refine ⟨(n3, some (.fz (dN j)), some (.fz (.str al)), some (.fz (.lst [dTr t, .str (txM t 0)])), some (.fz (dPat al (txM t 0) (netM s))), c6', c7'), ?_, trivial⟩
    simp_arith [lawE, ek, ez, ep, ho1, em, fr_oPat, pt_alph, pt_text, hsl, htt, es, ho2]
    simp only [lawE] at hin
    rw [hin])
  simp_arith [lawE]
end FA
namespace FA
open PySem PySem.Spec PyProof.Rows L2
def top (i : Nat) : Stmt := PySem.Challenge.pw_foreaft_k40_what_patterns_describe.main.body.getD i (.Pass ⟨0, 0, 0, 0⟩)
abbrev st_onward : Stmt := top 1
theorem sc_onward : FnScope ["network", "places", "k", "found", "place", "other"] ["network", "places", "k"] (defScope st_onward) := ⟨rfl, rfl, rfl, by decide +kernel, rfl, by decide +kernel, by decide +kernel⟩
abbrev st_accepts : Stmt := top 2
abbrev nm_accepts : List Str := ["network", "places", "place"]
theorem sc_accepts : FnScope ["network", "places", "place"] ["network", "places"] (defScope st_accepts) := ⟨rfl, rfl, rfl, by decide +kernel, rfl, by decide +kernel, by decide +kernel⟩
abbrev st_describes : Stmt := top 3
theorem sc_describes : FnScope ["network", "indexes", "places", "k"] ["network", "indexes"] (defScope st_describes) := ⟨rfl, rfl, rfl, by decide +kernel, rfl, by decide +kernel, by decide +kernel⟩
abbrev st_Network_init : Stmt := inClass (top 10) 0
theorem sc_Network_init : FnScope ["self", "marks", "follow", "ends"] ["self", "marks", "follow", "ends"] (defScope st_Network_init) := ⟨rfl, rfl, rfl, by decide +kernel, rfl, by decide +kernel, by decide +kernel⟩
abbrev st_Part_init : Stmt := inClass (top 11) 0
theorem sc_Part_init : FnScope ["self", "nullable", "first", "last"] ["self", "nullable", "first", "last"] (defScope st_Part_init) := ⟨rfl, rfl, rfl, by decide +kernel, rfl, by decide +kernel, by decide +kernel⟩
abbrev st_merged : Stmt := top 12
abbrev nm_merged : List Str := ["one", "two", "place"]
theorem sc_merged : FnScope ["one", "two", "place"] ["one", "two"] (defScope st_merged) := ⟨rfl, rfl, rfl, by decide +kernel, rfl, by decide +kernel, by decide +kernel⟩
abbrev st_Scanner_init : Stmt := inClass (top 13) 0
theorem sc_Scanner_init : FnScope ["self", "alphabet"] ["self", "alphabet"] (defScope st_Scanner_init) := ⟨rfl, rfl, rfl, by decide +kernel, rfl, by decide +kernel, by decide +kernel⟩
abbrev st_Scanner_is_closed : Stmt := inClass (top 13) 1
theorem sc_Scanner_is_closed : FnScope ["self"] ["self"] (defScope st_Scanner_is_closed) := ⟨rfl, rfl, rfl, by decide +kernel, rfl, by decide +kernel, by decide +kernel⟩
abbrev st_Scanner__join : Stmt := inClass (top 13) 7
theorem sc_Scanner__join : FnScope ["self", "last", "first", "place"] ["self", "last", "first"] (defScope st_Scanner__join) := ⟨rfl, rfl, rfl, by decide +kernel, rfl, by decide +kernel, by decide +kernel⟩
abbrev st_Scanner__take_star : Stmt := inClass (top 13) 5
theorem sc_Scanner__take_star : FnScope ["self", "sign", "part"] ["self", "sign"] (defScope st_Scanner__take_star) := ⟨rfl, rfl, rfl, by decide +kernel, rfl, by decide +kernel, by decide +kernel⟩
abbrev st_Scanner__add : Stmt := inClass (top 13) 3
theorem sc_Scanner__add : FnScope ["self", "part"] ["self", "part"] (defScope st_Scanner__add) := ⟨rfl, rfl, rfl, by decide +kernel, rfl, by decide +kernel, by decide +kernel⟩
abbrev st_Scanner__row : Stmt := inClass (top 13) 8
theorem sc_Scanner__row : FnScope ["self", "parts", "whole", "part", "first", "last"] ["self", "parts"] (defScope st_Scanner__row) := ⟨rfl, rfl, rfl, by decide +kernel, rfl, by decide +kernel, by decide +kernel⟩
abbrev st_Scanner__choice : Stmt := inClass (top 13) 9
theorem sc_Scanner__choice : FnScope ["self", "frame", "whole", "branch", "other", "nullable"] ["self", "frame"] (defScope st_Scanner__choice) := ⟨rfl, rfl, rfl, by decide +kernel, rfl, by decide +kernel, by decide +kernel⟩
abbrev st_Scanner__close : Stmt := inClass (top 13) 6
theorem sc_Scanner__close : FnScope ["self", "frame"] ["self"] (defScope st_Scanner__close) := ⟨rfl, rfl, rfl, by decide +kernel, rfl, by decide +kernel, by decide +kernel⟩
abbrev st_Scanner__add_place : Stmt := inClass (top 13) 4
theorem sc_Scanner__add_place : FnScope ["self", "mark", "place"] ["self", "mark"] (defScope st_Scanner__add_place) := ⟨rfl, rfl, rfl, by decide +kernel, rfl, by decide +kernel, by decide +kernel⟩
abbrev st_Scanner_take : Stmt := inClass (top 13) 2
theorem sc_Scanner_take : FnScope ["self", "sign"] ["self", "sign"] (defScope st_Scanner_take) := ⟨rfl, rfl, rfl, by decide +kernel, rfl, by decide +kernel, by decide +kernel⟩
abbrev st_Scanner_network : Stmt := inClass (top 13) 10
abbrev nm_Scanner_network : List Str := ["self", "whole", "follow", "ends", "places"]
theorem sc_Scanner_network : FnScope ["self", "whole", "follow", "ends", "places"] ["self"] (defScope st_Scanner_network) := ⟨rfl, rfl, rfl, by decide +kernel, rfl, by decide +kernel, by decide +kernel⟩
abbrev st_scanned : Stmt := top 14
theorem sc_scanned : FnScope ["alphabet", "text", "start", "stops", "scanner", "at"] ["alphabet", "text", "start", "stops"] (defScope st_scanned) := ⟨rfl, rfl, rfl, by decide +kernel, rfl, by decide +kernel, by decide +kernel⟩
abbrev st_codes : Stmt := top 16
abbrev nm_codes : List Str := ["alphabet", "word", "letter"]
theorem sc_codes : FnScope ["alphabet", "word", "letter"] ["alphabet", "word"] (defScope st_codes) := ⟨rfl, rfl, rfl, by decide +kernel, rfl, by decide +kernel, by decide +kernel⟩
abbrev st_Pattern_init : Stmt := inClass (top 18) 0
theorem sc_Pattern_init : FnScope ["self", "alphabet", "text", "scanner", "place", "fault"] ["self", "alphabet", "text"] (defScope st_Pattern_init) := ⟨rfl, rfl, rfl, by decide +kernel, rfl, by decide +kernel, by decide +kernel⟩
abbrev st_matches : Stmt := top 19
theorem sc_matches : FnScope ["pattern", "word"] ["pattern", "word"] (defScope st_matches) := ⟨rfl, rfl, rfl, by decide +kernel, rfl, by decide +kernel, by decide +kernel⟩
abbrev st_law_cell : Stmt := top 21
theorem sc_law_cell : FnScope ["_law_script", "_law_k"] ["_law_script", "_law_k"] (defScope st_law_cell) := ⟨rfl, rfl, rfl, by decide +kernel, rfl, by decide +kernel, by decide +kernel⟩
abbrev st_law_row : Stmt := top 22
theorem sc_law_row : FnScope ["_law_script", "_law_first", "_law_last", "_law_row_here", "_law_k", "_law_cell_here", "_law_turn"] ["_law_script", "_law_first", "_law_last"] (defScope st_law_row) := ⟨rfl, rfl, rfl, by decide +kernel, rfl, by decide +kernel, by decide +kernel⟩
abbrev st_law_draw : Stmt := top 23
theorem sc_law_draw : FnScope ["_law_box", "_law_many", "_law_at"] ["_law_box", "_law_many"] (defScope st_law_draw) := ⟨rfl, rfl, rfl, by decide +kernel, rfl, by decide +kernel, by decide +kernel⟩
abbrev st_law_alphabet : Stmt := top 24
theorem sc_law_alphabet : FnScope ["_law_box", "_law_many", "_law_letters", "_law_at"] ["_law_box", "_law_many"] (defScope st_law_alphabet) := ⟨rfl, rfl, rfl, by decide +kernel, rfl, by decide +kernel, by decide +kernel⟩
abbrev st_law_words : Stmt := top 25
abbrev nm_law_words : List Str := ["_law_alphabet_here", "_law_most", "_law_out", "_law_last", "_law_n", "_law_fresh", "_law_word_here", "_law_letter"]
theorem sc_law_words : FnScope ["_law_alphabet_here", "_law_most", "_law_out", "_law_last", "_law_n", "_law_fresh", "_law_word_here", "_law_letter"] ["_law_alphabet_here", "_law_most"] (defScope st_law_words) := ⟨rfl, rfl, rfl, by decide +kernel, rfl, by decide +kernel, by decide +kernel⟩
abbrev st_law_word : Stmt := top 26
abbrev nm_law_word : List Str := ["_law_box", "_law_alphabet_here", "_law_most", "_law_k"]
theorem sc_law_word : FnScope ["_law_box", "_law_alphabet_here", "_law_most", "_law_k"] ["_law_box", "_law_alphabet_here", "_law_most"] (defScope st_law_word) := ⟨rfl, rfl, rfl, by decide +kernel, rfl, by decide +kernel, by decide +kernel⟩
abbrev st_law_tree : Stmt := top 27
abbrev nm_law_tree : List Str := ["_law_box", "_law_alphabet_here", "_law_depth", "_law_kind", "_law_parts", "_law_k"]
theorem sc_law_tree : FnScope ["_law_box", "_law_alphabet_here", "_law_depth", "_law_kind", "_law_parts", "_law_k"] ["_law_box", "_law_alphabet_here", "_law_depth"] (defScope st_law_tree) := ⟨rfl, rfl, rfl, by decide +kernel, rfl, by decide +kernel, by decide +kernel⟩
abbrev st_law_text_of : Stmt := top 28
abbrev nm_law_text_of : List Str := ["_law_tree_here", "_law_level", "_law_text", "_law_part"]
theorem sc_law_text_of : FnScope ["_law_tree_here", "_law_level", "_law_text", "_law_part"] ["_law_tree_here", "_law_level"] (defScope st_law_text_of) := ⟨rfl, rfl, rfl, by decide +kernel, rfl, by decide +kernel, by decide +kernel⟩
abbrev st_law_pattern : Stmt := top 29
theorem sc_law_pattern : FnScope ["_law_box", "_law_alphabet_here", "_law_turn", "_law_tree_here", "_law_text"] ["_law_box", "_law_alphabet_here"] (defScope st_law_pattern) := ⟨rfl, rfl, rfl, by decide +kernel, rfl, by decide +kernel, by decide +kernel⟩
abbrev st_law_ends : Stmt := top 30
abbrev nm_law_ends : List Str := ["_law_tree_here", "_law_word_here", "_law_starts", "_law_part", "_law_out", "_law_at"]
theorem sc_law_ends : FnScope ["_law_tree_here", "_law_word_here", "_law_starts", "_law_part", "_law_out", "_law_at"] ["_law_tree_here", "_law_word_here", "_law_starts"] (defScope st_law_ends) := ⟨rfl, rfl, rfl, by decide +kernel, rfl, by decide +kernel, by decide +kernel⟩
abbrev st_law_starred : Stmt := top 31
abbrev nm_law_starred : List Str := ["_law_tree_here", "_law_word_here", "_law_starts", "_law_out", "_law_fresh", "_law_seen", "_law_turn", "_law_told", "_law_at"]
theorem sc_law_starred : FnScope ["_law_tree_here", "_law_word_here", "_law_starts", "_law_out", "_law_fresh", "_law_seen", "_law_turn", "_law_told", "_law_at"] ["_law_tree_here", "_law_word_here", "_law_starts"] (defScope st_law_starred) := ⟨rfl, rfl, rfl, by decide +kernel, rfl, by decide +kernel, by decide +kernel⟩
abbrev st_law_fits : Stmt := top 32
theorem sc_law_fits : FnScope ["_law_tree_here", "_law_word_here"] ["_law_tree_here", "_law_word_here"] (defScope st_law_fits) := ⟨rfl, rfl, rfl, by decide +kernel, rfl, by decide +kernel, by decide +kernel⟩
abbrev st_law_some_words : Stmt := top 33
abbrev nm_law_some_words : List Str := ["_law_box", "_law_alphabet_here", "_law_most", "_law_many", "_law_k"]
theorem sc_law_some_words : FnScope ["_law_box", "_law_alphabet_here", "_law_most", "_law_many", "_law_k"] ["_law_box", "_law_alphabet_here", "_law_most", "_law_many"] (defScope st_law_some_words) := ⟨rfl, rfl, rfl, by decide +kernel, rfl, by decide +kernel, by decide +kernel⟩
abbrev st_law : Stmt := top 34
theorem sc_law : FnScope ["_law_script", "_law_box", "_law_turn", "_law_alphabet_here", "_law_drawn", "_law_pattern_here", "_law_word_here", "_law_told"] ["_law_script"] (defScope st_law) := ⟨rfl, rfl, rfl, by decide +kernel, rfl, by decide +kernel, by decide +kernel⟩
theorem bt_abs : bootBuiltins "abs" = some (.builtin "abs") := by decide +kernel
theorem bt_any : bootBuiltins "any" = some (.builtin "any") := by decide +kernel
theorem bt_bool : bootBuiltins "bool" = some (.type "bool") := by decide +kernel
theorem bt_int : bootBuiltins "int" = some (.type "int") := by decide +kernel
theorem bt_isinstance : bootBuiltins "isinstance" = some (.builtin "isinstance") := by decide +kernel
theorem bt_list : bootBuiltins "list" = some (.type "list") := by decide +kernel
theorem bt_sorted : bootBuiltins "sorted" = some (.builtin "sorted") := by decide +kernel
theorem bt_tuple : bootBuiltins "tuple" = some (.type "tuple") := by decide +kernel
structure Fc (K : PySem.W.Frag) (mg : Str → Option Value) : Prop where
  b_abs : mg "abs" = none
  b_any : mg "any" = none
  b_bool : mg "bool" = none
  b_int : mg "int" = none
  b_isinstance : mg "isinstance" = none
  b_len : mg "len" = none
  b_list : mg "list" = none
  b_range : mg "range" = none
  b_sorted : mg "sorted" = none
  b_tuple : mg "tuple" = none
  k_MOST_SIGNS : ∃ t, mg "MOST_SIGNS" = some (.int 12 t)
  k_STARS : ∃ t, mg "STARS" = some (.str "*+?" t)
  c_Network : mg "Network" = some (.ref (He.ga K "Network"))
  c_Part : mg "Part" = some (.ref (He.ga K "Part"))
  c_Scanner : mg "Scanner" = some (.ref (He.ga K "Scanner"))
  c_Pattern : mg "Pattern" = some (.ref (He.ga K "Pattern"))
  f_onward : ∃ fa fd, mg "onward" = some (.ref fa) ∧ FunD K "onward" "onward" (defArgs st_onward) (defBody st_onward) (defScope st_onward) [] [] fa fd
  f_accepts : ∃ fa fd, mg "accepts" = some (.ref fa) ∧ FunD K "accepts" "accepts" (defArgs st_accepts) (defBody st_accepts) (defScope st_accepts) [] [] fa fd
  f_describes : ∃ fa fd, mg "describes" = some (.ref fa) ∧ FunD K "describes" "describes" (defArgs st_describes) (defBody st_describes) (defScope st_describes) [] [] fa fd
  mk_Network : Mk K (He.ga K "Network") (He.ma K (He.ga K "Network") "__init__")
  f_Network_init : ∃ fd, FunD K "__init__" "Network.__init__" (defArgs st_Network_init) (defBody st_Network_init) (defScope st_Network_init) [] [] (He.ma K (He.ga K "Network") "__init__") fd
  mk_Part : Mk K (He.ga K "Part") (He.ma K (He.ga K "Part") "__init__")
  f_Part_init : ∃ fd, FunD K "__init__" "Part.__init__" (defArgs st_Part_init) (defBody st_Part_init) (defScope st_Part_init) [] [] (He.ma K (He.ga K "Part") "__init__") fd
  f_merged : ∃ fa fd, mg "_merged" = some (.ref fa) ∧ FunD K "_merged" "_merged" (defArgs st_merged) (defBody st_merged) (defScope st_merged) [] [] fa fd
  mk_Scanner : Mk K (He.ga K "Scanner") (He.ma K (He.ga K "Scanner") "__init__")
  f_Scanner_init : ∃ fd, FunD K "__init__" "Scanner.__init__" (defArgs st_Scanner_init) (defBody st_Scanner_init) (defScope st_Scanner_init) [] [] (He.ma K (He.ga K "Scanner") "__init__") fd
  mt_Scanner_is_closed : Meth K (He.ga K "Scanner") "is_closed" (He.ma K (He.ga K "Scanner") "is_closed")
  f_Scanner_is_closed : ∃ fd, FunD K "is_closed" "Scanner.is_closed" (defArgs st_Scanner_is_closed) (defBody st_Scanner_is_closed) (defScope st_Scanner_is_closed) [] [] (He.ma K (He.ga K "Scanner") "is_closed") fd
  mt_Scanner__join : Meth K (He.ga K "Scanner") "_join" (He.ma K (He.ga K "Scanner") "_join")
  f_Scanner__join : ∃ fd, FunD K "_join" "Scanner._join" (defArgs st_Scanner__join) (defBody st_Scanner__join) (defScope st_Scanner__join) [] [] (He.ma K (He.ga K "Scanner") "_join") fd
  mt_Scanner__take_star : Meth K (He.ga K "Scanner") "_take_star" (He.ma K (He.ga K "Scanner") "_take_star")
  f_Scanner__take_star : ∃ fd, FunD K "_take_star" "Scanner._take_star" (defArgs st_Scanner__take_star) (defBody st_Scanner__take_star) (defScope st_Scanner__take_star) [] [] (He.ma K (He.ga K "Scanner") "_take_star") fd
  mt_Scanner__add : Meth K (He.ga K "Scanner") "_add" (He.ma K (He.ga K "Scanner") "_add")
  f_Scanner__add : ∃ fd, FunD K "_add" "Scanner._add" (defArgs st_Scanner__add) (defBody st_Scanner__add) (defScope st_Scanner__add) [] [] (He.ma K (He.ga K "Scanner") "_add") fd
  mt_Scanner__row : Meth K (He.ga K "Scanner") "_row" (He.ma K (He.ga K "Scanner") "_row")
  f_Scanner__row : ∃ fd, FunD K "_row" "Scanner._row" (defArgs st_Scanner__row) (defBody st_Scanner__row) (defScope st_Scanner__row) [] [] (He.ma K (He.ga K "Scanner") "_row") fd
  mt_Scanner__choice : Meth K (He.ga K "Scanner") "_choice" (He.ma K (He.ga K "Scanner") "_choice")
  f_Scanner__choice : ∃ fd, FunD K "_choice" "Scanner._choice" (defArgs st_Scanner__choice) (defBody st_Scanner__choice) (defScope st_Scanner__choice) [] [] (He.ma K (He.ga K "Scanner") "_choice") fd
  mt_Scanner__close : Meth K (He.ga K "Scanner") "_close" (He.ma K (He.ga K "Scanner") "_close")
  f_Scanner__close : ∃ fd, FunD K "_close" "Scanner._close" (defArgs st_Scanner__close) (defBody st_Scanner__close) (defScope st_Scanner__close) [] [] (He.ma K (He.ga K "Scanner") "_close") fd
  mt_Scanner__add_place : Meth K (He.ga K "Scanner") "_add_place" (He.ma K (He.ga K "Scanner") "_add_place")
  f_Scanner__add_place : ∃ fd, FunD K "_add_place" "Scanner._add_place" (defArgs st_Scanner__add_place) (defBody st_Scanner__add_place) (defScope st_Scanner__add_place) [] [] (He.ma K (He.ga K "Scanner") "_add_place") fd
  mt_Scanner_take : Meth K (He.ga K "Scanner") "take" (He.ma K (He.ga K "Scanner") "take")
  f_Scanner_take : ∃ fd, FunD K "take" "Scanner.take" (defArgs st_Scanner_take) (defBody st_Scanner_take) (defScope st_Scanner_take) [] [] (He.ma K (He.ga K "Scanner") "take") fd
  mt_Scanner_network : Meth K (He.ga K "Scanner") "network" (He.ma K (He.ga K "Scanner") "network")
  f_Scanner_network : ∃ fd, FunD K "network" "Scanner.network" (defArgs st_Scanner_network) (defBody st_Scanner_network) (defScope st_Scanner_network) [] [] (He.ma K (He.ga K "Scanner") "network") fd
  f_scanned : ∃ fa fd, mg "scanned" = some (.ref fa) ∧ FunD K "scanned" "scanned" (defArgs st_scanned) (defBody st_scanned) (defScope st_scanned) [] [] fa fd
  f_codes : ∃ fa fd, mg "codes" = some (.ref fa) ∧ FunD K "codes" "codes" (defArgs st_codes) (defBody st_codes) (defScope st_codes) [] [] fa fd
  mk_Pattern : Mk K (He.ga K "Pattern") (He.ma K (He.ga K "Pattern") "__init__")
  f_Pattern_init : ∃ fd, FunD K "__init__" "Pattern.__init__" (defArgs st_Pattern_init) (defBody st_Pattern_init) (defScope st_Pattern_init) [] [] (He.ma K (He.ga K "Pattern") "__init__") fd
  f_matches : ∃ fa fd, mg "matches" = some (.ref fa) ∧ FunD K "matches" "matches" (defArgs st_matches) (defBody st_matches) (defScope st_matches) [] [] fa fd
  f_law_cell : ∃ fa fd, mg "_law_cell" = some (.ref fa) ∧ FunD K "_law_cell" "_law_cell" (defArgs st_law_cell) (defBody st_law_cell) (defScope st_law_cell) [] [] fa fd
  f_law_row : ∃ fa fd, mg "_law_row" = some (.ref fa) ∧ FunD K "_law_row" "_law_row" (defArgs st_law_row) (defBody st_law_row) (defScope st_law_row) [] [] fa fd
  f_law_draw : ∃ fa fd, mg "_law_draw" = some (.ref fa) ∧ FunD K "_law_draw" "_law_draw" (defArgs st_law_draw) (defBody st_law_draw) (defScope st_law_draw) [] [] fa fd
  f_law_alphabet : ∃ fa fd, mg "_law_alphabet" = some (.ref fa) ∧ FunD K "_law_alphabet" "_law_alphabet" (defArgs st_law_alphabet) (defBody st_law_alphabet) (defScope st_law_alphabet) [] [] fa fd
  f_law_words : ∃ fa fd, mg "_law_words" = some (.ref fa) ∧ FunD K "_law_words" "_law_words" (defArgs st_law_words) (defBody st_law_words) (defScope st_law_words) [] [] fa fd
  f_law_word : ∃ fa fd, mg "_law_word" = some (.ref fa) ∧ FunD K "_law_word" "_law_word" (defArgs st_law_word) (defBody st_law_word) (defScope st_law_word) [] [] fa fd
  f_law_tree : ∃ fa fd, mg "_law_tree" = some (.ref fa) ∧ FunD K "_law_tree" "_law_tree" (defArgs st_law_tree) (defBody st_law_tree) (defScope st_law_tree) [] [] fa fd
  f_law_text_of : ∃ fa fd, mg "_law_text_of" = some (.ref fa) ∧ FunD K "_law_text_of" "_law_text_of" (defArgs st_law_text_of) (defBody st_law_text_of) (defScope st_law_text_of) [] [] fa fd
  f_law_pattern : ∃ fa fd, mg "_law_pattern" = some (.ref fa) ∧ FunD K "_law_pattern" "_law_pattern" (defArgs st_law_pattern) (defBody st_law_pattern) (defScope st_law_pattern) [] [] fa fd
  f_law_ends : ∃ fa fd, mg "_law_ends" = some (.ref fa) ∧ FunD K "_law_ends" "_law_ends" (defArgs st_law_ends) (defBody st_law_ends) (defScope st_law_ends) [] [] fa fd
  f_law_starred : ∃ fa fd, mg "_law_starred" = some (.ref fa) ∧ FunD K "_law_starred" "_law_starred" (defArgs st_law_starred) (defBody st_law_starred) (defScope st_law_starred) [] [] fa fd
  f_law_fits : ∃ fa fd, mg "_law_fits" = some (.ref fa) ∧ FunD K "_law_fits" "_law_fits" (defArgs st_law_fits) (defBody st_law_fits) (defScope st_law_fits) [] [] fa fd
  f_law_some_words : ∃ fa fd, mg "_law_some_words" = some (.ref fa) ∧ FunD K "_law_some_words" "_law_some_words" (defArgs st_law_some_words) (defBody st_law_some_words) (defScope st_law_some_words) [] [] fa fd
  f_law : ∃ fa fd, mg "law" = some (.ref fa) ∧ FunD K "law" "law" (defArgs st_law) (defBody st_law) (defScope st_law) [] [] fa fd
  hC : ClsOk K (ctOf K ["Network", "Part", "Scanner", "Pattern"])
abbrev gm (P : Program) (w : World) (K : PySem.W.Frag) : Wd := gam P w K ["Network", "Part", "Scanner", "Pattern"]
section
variable {P : Program} {w : World} {K : PySem.W.Frag} {mg : Str → Option Value} {base : Heap}
theorem at_onward (Z : Fc K mg) {fa : Addr} {fd : FuncData} (F : FunD K "onward" "onward" (defArgs st_onward) (defBody st_onward) (defScope st_onward) [] [] fa fd) : FnOk P w K mg base (L2.CX P w) 1 fa fd ["network", "places", "k"] (spOf (gm P w K) sem_onward [false, false, false]) := by
  refine fn_den F sc_onward [false, false, false] 6 3 [] fun cdv A outer s H E hr => ?_
  have hC := Z.hC
  exact (dss_cons (ds_set de_dic0 (dg_nm 3 sc_onward.nd))
    (dss_cons (ds_for (passes_of rfl) rfl (di_e rfl (de_p (dp_var 1))) (dg_nm 4 sc_onward.nd) (dss_one (ds_for (passes_of rfl) rfl (di_e rfl (de_p (dp_ix rfl (dp_fld (f := "follow") rfl hC (dp_var 0)) (dp_var 4) (fun _ _ => rfl)))) (dg_nm 5 sc_onward.nd) (dss_one (ds_if (dt_w (dw_or (dt_cmp s_is ob_is (de_p (dp_ix rfl (dp_fld (f := "marks") rfl hC (dp_var 0)) (dp_var 5) (fun _ _ => rfl))) de_non) (dw_or1 (dt_cmp (s_eq hr.units) ob_eq (de_p (dp_ix rfl (dp_fld (f := "marks") rfl hC (dp_var 0)) (dp_var 5) (fun _ _ => rfl))) (de_p (dp_var 2)))))) (dss_one (ds_setD 3 rfl (room65 hr) de_bl (de_p (dp_var 5)))) dss_nil)))))
    (dss_one (ds_ret (de_callT c_tuple rfl Z.b_tuple bt_tuple (de_callB (c_sortI rfl) rfl Z.b_sorted bt_sorted (de_frz 3)))))))
theorem ok_onward (Z : Fc K mg) : OkF P w K mg base (gm P w K) 1 "onward" ["network", "places", "k"] sem_onward [false, false, false] := by
  obtain ⟨fa, fd, hm, F⟩ := Z.f_onward
  exact ⟨fa, fd, hm, F.kp, F.bindsN fun _ _ _ _ _ _ us hl => (match us, hl with | [_, _, _], _ => rfl), at_onward Z F⟩
theorem at_accepts (Z : Fc K mg) {fa : Addr} {fd : FuncData} (F : FunD K "accepts" "accepts" (defArgs st_accepts) (defBody st_accepts) (defScope st_accepts) [] [] fa fd) : FnOk P w K mg base (L2.CX P w) 1 fa fd ["network", "places"] (spOf (gm P w K) sem_accepts [false, false]) := by
  refine fn_den F sc_accepts [false, false] 3 2 [] fun cdv A outer s H E hr => ?_
  have hC := Z.hC
  exact (dss_one (ds_ret (de_callB (c_any rfl) rfl Z.b_any bt_any (de_comp rfl sc_accepts.nd (own := [("place", 2)]) (di_e rfl (de_p (dp_var 1))) (blkOk_by (show blkC nm_accepts (defScope st_accepts) _ _ = true from by decide +kernel)) (fun _ _ _ _ _ => (dg_nm 2 sc_accepts.nd)) (fun _ _ _ _ _ => dts_nil) (fun _ _ _ _ _ => (de_inP (b_in (room65 hr)) (de_p (dp_var 2)) (dp_fld (f := "ends") rfl hC (dp_var 0))))))))
theorem ok_accepts (Z : Fc K mg) : OkF P w K mg base (gm P w K) 1 "accepts" ["network", "places"] sem_accepts [false, false] := by
  obtain ⟨fa, fd, hm, F⟩ := Z.f_accepts
  exact ⟨fa, fd, hm, F.kp, F.bindsN fun _ _ _ _ _ _ us hl => (match us, hl with | [_, _], _ => rfl), at_accepts Z F⟩
theorem at_describes (Z : Fc K mg) (o_onward : OkF P w K mg base (gm P w K) 1 "onward" ["network", "places", "k"] sem_onward [false, false, false]) (o_accepts : OkF P w K mg base (gm P w K) 1 "accepts" ["network", "places"] sem_accepts [false, false]) {fa : Addr} {fd : FuncData} (F : FunD K "describes" "describes" (defArgs st_describes) (defBody st_describes) (defScope st_describes) [] [] fa fd) : FnOk P w K mg base (L2.CX P w) 2 fa fd ["network", "indexes"] (spOf (gm P w K) sem_describes [false, false]) := by
  refine fn_den F sc_describes [false, false] 4 2 [] fun cdv A outer s H E hr => ?_
  exact (dss_cons (ds_set (de_fz (de_tup (da_cons de_int da_nil))) (dg_nm 2 sc_describes.nd))
    (dss_cons (ds_for (passes_of rfl) rfl (di_e rfl (de_p (dp_var 1))) (dg_nm 3 sc_describes.nd) (dss_one (ds_set (de_fz (de_callF o_onward hr (by decide) (takes_of rfl rfl rfl rfl) rfl (dr_v (de_p (dp_var 0)) (dr_v (de_p (dp_var 2)) (dr_v (de_p (dp_var 3)) dr_nil))))) (dg_nm 2 sc_describes.nd))))
    (dss_one (ds_ret (de_callF o_accepts hr (by decide) (takes_of rfl rfl rfl rfl) rfl (dr_v (de_p (dp_var 0)) (dr_v (de_p (dp_var 2)) dr_nil)))))))
theorem ok_describes (Z : Fc K mg) (o_onward : OkF P w K mg base (gm P w K) 1 "onward" ["network", "places", "k"] sem_onward [false, false, false]) (o_accepts : OkF P w K mg base (gm P w K) 1 "accepts" ["network", "places"] sem_accepts [false, false]) : OkF P w K mg base (gm P w K) 2 "describes" ["network", "indexes"] sem_describes [false, false] := by
  obtain ⟨fa, fd, hm, F⟩ := Z.f_describes
  exact ⟨fa, fd, hm, F.kp, F.bindsN fun _ _ _ _ _ _ us hl => (match us, hl with | [_, _], _ => rfl), at_describes Z o_onward o_accepts F⟩
theorem at_Network_init (Z : Fc K mg) {fa : Addr} {fd : FuncData} (F : FunD K "__init__" "Network.__init__" (defArgs st_Network_init) (defBody st_Network_init) (defScope st_Network_init) [] [] fa fd) : FnOk P w K mg base (L2.CX P w) 1 fa fd ["self", "marks", "follow", "ends"] (spOf (gm P w K) sem_Network_init [true, false, false, false]) := by
  refine fn_den F sc_Network_init [true, false, false, false] 4 4 [0] fun cdv A outer s H E hr => ?_
  have hC := Z.hC
  exact (dss_cons (ds_setF 0 (f := "marks") rfl hC (de_p (dp_var 1)))
    (dss_cons (ds_setF 0 (f := "follow") rfl hC (de_p (dp_var 2)))
    (dss_one (ds_setF 0 (f := "ends") rfl hC (de_p (dp_var 3))))))
theorem ok_Network_init (Z : Fc K mg) : OkM P w K mg base (gm P w K) 1 "Network" "Network" ["self", "marks", "follow", "ends"] sem_Network_init [false, false, false] := by
  obtain ⟨fd, F⟩ := Z.f_Network_init
  exact ⟨_, _, fd, Z.c_Network, rfl, Z.mk_Network, F.bindsN fun _ _ _ _ _ _ us hl => (match us, hl with | [_, _, _, _], _ => rfl), at_Network_init Z F⟩
theorem at_Part_init (Z : Fc K mg) {fa : Addr} {fd : FuncData} (F : FunD K "__init__" "Part.__init__" (defArgs st_Part_init) (defBody st_Part_init) (defScope st_Part_init) [] [] fa fd) : FnOk P w K mg base (L2.CX P w) 1 fa fd ["self", "nullable", "first", "last"] (spOf (gm P w K) sem_Part_init [true, false, false, false]) := by
  refine fn_den F sc_Part_init [true, false, false, false] 4 4 [0] fun cdv A outer s H E hr => ?_
  have hC := Z.hC
  exact (dss_cons (ds_setF 0 (f := "nullable") rfl hC (de_p (dp_var 1)))
    (dss_cons (ds_setF 0 (f := "first") rfl hC (de_p (dp_var 2)))
    (dss_one (ds_setF 0 (f := "last") rfl hC (de_p (dp_var 3))))))
theorem ok_Part_init (Z : Fc K mg) : OkM P w K mg base (gm P w K) 1 "Part" "Part" ["self", "nullable", "first", "last"] sem_Part_init [false, false, false] := by
  obtain ⟨fd, F⟩ := Z.f_Part_init
  exact ⟨_, _, fd, Z.c_Part, rfl, Z.mk_Part, F.bindsN fun _ _ _ _ _ _ us hl => (match us, hl with | [_, _, _, _], _ => rfl), at_Part_init Z F⟩
theorem at_merged (Z : Fc K mg) {fa : Addr} {fd : FuncData} (F : FunD K "_merged" "_merged" (defArgs st_merged) (defBody st_merged) (defScope st_merged) [] [] fa fd) : FnOk P w K mg base (L2.CX P w) 1 fa fd ["one", "two"] (spOf (gm P w K) sem_merged [false, false]) := by
  refine fn_den F sc_merged [false, false] 3 2 [] fun cdv A outer s H E hr => ?_
  exact (dss_one (ds_ret (de_callB (c_sortI rfl) rfl Z.b_sorted bt_sorted (de_dcomp rfl sc_merged.nd (own := [("place", 2)]) (di_e rfl (de_bin s_add (de_p (dp_var 0)) (de_p (dp_var 1)))) (blkOk_by (show blkC nm_merged (defScope st_merged) _ _ = true from by decide +kernel)) (fun _ _ _ _ _ => (dg_nm 2 sc_merged.nd)) (fun _ _ _ _ _ => dts_nil) (fun _ _ _ _ _ => (de_p (dp_var 2))) (fun _ _ _ _ _ => de_bl)))))
theorem ok_merged (Z : Fc K mg) : OkF P w K mg base (gm P w K) 1 "_merged" ["one", "two"] sem_merged [false, false] := by
  obtain ⟨fa, fd, hm, F⟩ := Z.f_merged
  exact ⟨fa, fd, hm, F.kp, F.bindsN fun _ _ _ _ _ _ us hl => (match us, hl with | [_, _], _ => rfl), at_merged Z F⟩
theorem at_Scanner_init (Z : Fc K mg) {fa : Addr} {fd : FuncData} (F : FunD K "__init__" "Scanner.__init__" (defArgs st_Scanner_init) (defBody st_Scanner_init) (defScope st_Scanner_init) [] [] fa fd) : FnOk P w K mg base (L2.CX P w) 1 fa fd ["self", "alphabet"] (spOf (gm P w K) sem_Scanner_init [true, false]) := by
  refine fn_den F sc_Scanner_init [true, false] 2 2 [0] fun cdv A outer s H E hr => ?_
  have hC := Z.hC
  exact (dss_cons (ds_setF 0 (f := "alphabet") rfl hC (de_p (dp_var 1)))
    (dss_cons (ds_setF 0 (f := "marks") rfl hC (de_lst (da_cons de_non da_nil)))
    (dss_cons (ds_setF 0 (f := "follow") rfl hC (de_lst (da_cons (de_lst da_nil) da_nil)))
    (dss_cons (ds_setF 0 (f := "frames") rfl hC (de_lst (da_cons (de_lst (da_cons (de_lst da_nil) da_nil)) da_nil)))
    (dss_cons (ds_setF 0 (f := "signs") rfl hC de_int)
    (dss_one (ds_setF 0 (f := "starred") rfl hC de_bl)))))))
theorem ok_Scanner_init (Z : Fc K mg) : OkM P w K mg base (gm P w K) 1 "Scanner" "Scanner" ["self", "alphabet"] sem_Scanner_init [false] := by
  obtain ⟨fd, F⟩ := Z.f_Scanner_init
  exact ⟨_, _, fd, Z.c_Scanner, rfl, Z.mk_Scanner, F.bindsN fun _ _ _ _ _ _ us hl => (match us, hl with | [_, _], _ => rfl), at_Scanner_init Z F⟩
theorem at_Scanner_is_closed (Z : Fc K mg) {fa : Addr} {fd : FuncData} (F : FunD K "is_closed" "Scanner.is_closed" (defArgs st_Scanner_is_closed) (defBody st_Scanner_is_closed) (defScope st_Scanner_is_closed) [] [] fa fd) : FnOk P w K mg base (L2.CX P w) 1 fa fd ["self"] (spOf (gm P w K) sem_Scanner_is_closed [true]) := by
  refine fn_den F sc_Scanner_is_closed [true] 1 1 [0] fun cdv A outer s H E hr => ?_
  have hC := Z.hC
  exact (dss_one (ds_ret (de_cmp (s_eq hr.units) (de_lenP rfl rfl Z.b_len (dp_fld (f := "frames") rfl hC (dp_var 0))) de_int)))
theorem ok_Scanner_is_closed (Z : Fc K mg) : OkMt P w K mg base (gm P w K) 1 "Scanner" "is_closed" ["self"] sem_Scanner_is_closed [true] := by
  obtain ⟨fd, F⟩ := Z.f_Scanner_is_closed
  exact ⟨_, _, fd, rfl, Z.hC.cls "Scanner" _ rfl, Z.mt_Scanner_is_closed, F.bindsN fun _ _ _ _ _ _ us hl => (match us, hl with | [_], _ => rfl), at_Scanner_is_closed Z F⟩
theorem at_Scanner__join (Z : Fc K mg) (o_merged : OkF P w K mg base (gm P w K) 1 "_merged" ["one", "two"] sem_merged [false, false]) {fa : Addr} {fd : FuncData} (F : FunD K "_join" "Scanner._join" (defArgs st_Scanner__join) (defBody st_Scanner__join) (defScope st_Scanner__join) [] [] fa fd) : FnOk P w K mg base (L2.CX P w) 2 fa fd ["self", "last", "first"] (spOf (gm P w K) sem_Scanner__join [true, false, false]) := by
  refine fn_den F sc_Scanner__join [true, false, false] 4 3 [0] fun cdv A outer s H E hr => ?_
  have hC := Z.hC
  exact (dss_one (ds_for (passes_of rfl) rfl (di_e rfl (de_p (dp_var 1))) (dg_nm 3 sc_Scanner__join.nd) (dss_one (ds_setP 0 (de_fz (de_callF o_merged hr (by decide) (takes_of rfl rfl rfl rfl) rfl (dr_v (de_p (dp_ix rfl (dp_fld (f := "follow") rfl hC (dp_var 0)) (dp_var 3) (fun _ _ => rfl))) (dr_v (de_p (dp_var 2)) dr_nil)))) (pt_fld (f := "follow") rfl hC (pt_base 0) ptV_sub) (ptFld_sub ptV_sub) (de_p (dp_var 3))))))
theorem ok_Scanner__join (Z : Fc K mg) (o_merged : OkF P w K mg base (gm P w K) 1 "_merged" ["one", "two"] sem_merged [false, false]) : OkMt P w K mg base (gm P w K) 2 "Scanner" "_join" ["self", "last", "first"] sem_Scanner__join [true, false, false] := by
  obtain ⟨fd, F⟩ := Z.f_Scanner__join
  exact ⟨_, _, fd, rfl, Z.hC.cls "Scanner" _ rfl, Z.mt_Scanner__join, F.bindsN fun _ _ _ _ _ _ us hl => (match us, hl with | [_, _, _], _ => rfl), at_Scanner__join Z o_merged F⟩
theorem at_Scanner__take_star (Z : Fc K mg) (o_Scanner__join : OkMt P w K mg base (gm P w K) 2 "Scanner" "_join" ["self", "last", "first"] sem_Scanner__join [true, false, false]) (o_Part_init : OkM P w K mg base (gm P w K) 1 "Part" "Part" ["self", "nullable", "first", "last"] sem_Part_init [false, false, false]) {fa : Addr} {fd : FuncData} (F : FunD K "_take_star" "Scanner._take_star" (defArgs st_Scanner__take_star) (defBody st_Scanner__take_star) (defScope st_Scanner__take_star) [] [] fa fd) : FnOk P w K mg base (L2.CX P w) 3 fa fd ["self", "sign"] (spOf (gm P w K) sem_Scanner__take_star [true, false]) := by
  refine fn_den F sc_Scanner__take_star [true, false] 3 2 [0] fun cdv A outer s H E hr => ?_
  have hC := Z.hC
  exact (dss_cons (ds_if (dt_not (dt_p rfl (dp_fld (f := "starred") rfl hC (dp_var 0)))) (dss_one (ds_ret de_bl)) dss_nil)
    (dss_cons (ds_set (de_p (dp_ix rfl (dp_ix rfl (dp_ix rfl (dp_fld (f := "frames") rfl hC (dp_var 0)) dp_neg (fun _ _ => rfl)) dp_neg (fun _ _ => rfl)) dp_neg (fun _ _ => rfl))) (dg_nm 2 sc_Scanner__take_star.nd))
    (dss_cons (ds_if (dt_cmp (s_ne hr.units) ob_ne (de_p (dp_var 1)) de_str) (dss_one (ds_ex (de_meth (ms := "_join") 0 o_Scanner__join hr (by decide) (takes_of rfl rfl rfl rfl) (by decide) (dr_v (de_p (dp_fld (f := "last") rfl hC (dp_var 2))) (dr_v (de_p (dp_fld (f := "first") rfl hC (dp_var 2))) dr_nil))))) dss_nil)
    (dss_cons (ds_setP 0 (de_fz (de_make o_Part_init hr (by decide) (takes_of rfl rfl rfl rfl) rfl (dr_v (de_or (de_p (dp_fld (f := "nullable") rfl hC (dp_var 2))) (de_one (de_cmp (s_ne hr.units) (de_p (dp_var 1)) de_str))) (dr_v (de_p (dp_fld (f := "first") rfl hC (dp_var 2))) (dr_v (de_p (dp_fld (f := "last") rfl hC (dp_var 2))) dr_nil))))) (pt_ix (pt_ix (pt_fld (f := "frames") rfl hC (pt_base 0) ptV_sub) dp_neg (fun _ _ => rfl) (ptFld_sub ptV_sub)) dp_neg (fun _ _ => rfl) (ptIx_sub (ptFld_sub ptV_sub))) (ptIx_sub (ptIx_sub (ptFld_sub ptV_sub))) de_neg)
    (dss_one (ds_ret de_bl))))))
theorem ok_Scanner__take_star (Z : Fc K mg) (o_Scanner__join : OkMt P w K mg base (gm P w K) 2 "Scanner" "_join" ["self", "last", "first"] sem_Scanner__join [true, false, false]) (o_Part_init : OkM P w K mg base (gm P w K) 1 "Part" "Part" ["self", "nullable", "first", "last"] sem_Part_init [false, false, false]) : OkMt P w K mg base (gm P w K) 3 "Scanner" "_take_star" ["self", "sign"] sem_Scanner__take_star [true, false] := by
  obtain ⟨fd, F⟩ := Z.f_Scanner__take_star
  exact ⟨_, _, fd, rfl, Z.hC.cls "Scanner" _ rfl, Z.mt_Scanner__take_star, F.bindsN fun _ _ _ _ _ _ us hl => (match us, hl with | [_, _], _ => rfl), at_Scanner__take_star Z o_Scanner__join o_Part_init F⟩
theorem at_Scanner__add (Z : Fc K mg) {fa : Addr} {fd : FuncData} (F : FunD K "_add" "Scanner._add" (defArgs st_Scanner__add) (defBody st_Scanner__add) (defScope st_Scanner__add) [] [] fa fd) : FnOk P w K mg base (L2.CX P w) 1 fa fd ["self", "part"] (spOf (gm P w K) sem_Scanner__add [true, false]) := by
  refine fn_den F sc_Scanner__add [true, false] 2 2 [0] fun cdv A outer s H E hr => ?_
  have hC := Z.hC
  exact (dss_cons (ds_appP 0 (pt_ix (pt_ix (pt_fld (f := "frames") rfl hC (pt_base 0) ptV_sub) dp_neg (fun _ _ => rfl) (ptFld_sub ptV_sub)) dp_neg (fun _ _ => rfl) (ptIx_sub (ptFld_sub ptV_sub))) (ptIx_sub (ptIx_sub (ptFld_sub ptV_sub))) (de_p (dp_var 1)))
    (dss_one (ds_setF 0 (f := "starred") rfl hC de_bl)))
theorem ok_Scanner__add (Z : Fc K mg) : OkMt P w K mg base (gm P w K) 1 "Scanner" "_add" ["self", "part"] sem_Scanner__add [true, false] := by
  obtain ⟨fd, F⟩ := Z.f_Scanner__add
  exact ⟨_, _, fd, rfl, Z.hC.cls "Scanner" _ rfl, Z.mt_Scanner__add, F.bindsN fun _ _ _ _ _ _ us hl => (match us, hl with | [_, _], _ => rfl), at_Scanner__add Z F⟩
theorem at_Scanner__row (Z : Fc K mg) (o_Part_init : OkM P w K mg base (gm P w K) 1 "Part" "Part" ["self", "nullable", "first", "last"] sem_Part_init [false, false, false]) (o_Scanner__join : OkMt P w K mg base (gm P w K) 2 "Scanner" "_join" ["self", "last", "first"] sem_Scanner__join [true, false, false]) (o_merged : OkF P w K mg base (gm P w K) 1 "_merged" ["one", "two"] sem_merged [false, false]) {fa : Addr} {fd : FuncData} (F : FunD K "_row" "Scanner._row" (defArgs st_Scanner__row) (defBody st_Scanner__row) (defScope st_Scanner__row) [] [] fa fd) : FnOk P w K mg base (L2.CX P w) 3 fa fd ["self", "parts"] (spOf (gm P w K) sem_Scanner__row [true, false]) := by
  refine fn_den F sc_Scanner__row [true, false] 6 2 [0] fun cdv A outer s H E hr => ?_
  have hC := Z.hC
  exact (dss_cons (ds_set (de_fz (de_make o_Part_init hr (by decide) (takes_of rfl rfl rfl rfl) rfl (dr_v de_bl (dr_v (de_lst da_nil) (dr_v (de_lst da_nil) dr_nil))))) (dg_nm 2 sc_Scanner__row.nd))
    (dss_cons (ds_for (passes_of rfl) rfl (di_e rfl (de_p (dp_var 1))) (dg_nm 3 sc_Scanner__row.nd) (dss_cons (ds_ex (de_meth (ms := "_join") 0 o_Scanner__join hr (by decide) (takes_of rfl rfl rfl rfl) (by decide) (dr_v (de_p (dp_fld (f := "last") rfl hC (dp_var 2))) (dr_v (de_p (dp_fld (f := "first") rfl hC (dp_var 3))) dr_nil))))
      (dss_cons (ds_set (de_fz (de_if (dt_p rfl (dp_fld (f := "nullable") rfl hC (dp_var 2))) (de_callF o_merged hr (by decide) (takes_of rfl rfl rfl rfl) rfl (dr_v (de_p (dp_fld (f := "first") rfl hC (dp_var 2))) (dr_v (de_p (dp_fld (f := "first") rfl hC (dp_var 3))) dr_nil))) (de_p (dp_fld (f := "first") rfl hC (dp_var 2))))) (dg_nm 4 sc_Scanner__row.nd))
      (dss_cons (ds_set (de_fz (de_if (dt_p rfl (dp_fld (f := "nullable") rfl hC (dp_var 3))) (de_callF o_merged hr (by decide) (takes_of rfl rfl rfl rfl) rfl (dr_v (de_p (dp_fld (f := "last") rfl hC (dp_var 2))) (dr_v (de_p (dp_fld (f := "last") rfl hC (dp_var 3))) dr_nil))) (de_p (dp_fld (f := "last") rfl hC (dp_var 3))))) (dg_nm 5 sc_Scanner__row.nd))
      (dss_one (ds_set (de_fz (de_make o_Part_init hr (by decide) (takes_of rfl rfl rfl rfl) rfl (dr_v (de_and (de_p (dp_fld (f := "nullable") rfl hC (dp_var 2))) (de_one (de_p (dp_fld (f := "nullable") rfl hC (dp_var 3))))) (dr_v (de_p (dp_var 4)) (dr_v (de_p (dp_var 5)) dr_nil))))) (dg_nm 2 sc_Scanner__row.nd)))))))
    (dss_one (ds_ret (de_p (dp_var 2))))))
theorem ok_Scanner__row (Z : Fc K mg) (o_Part_init : OkM P w K mg base (gm P w K) 1 "Part" "Part" ["self", "nullable", "first", "last"] sem_Part_init [false, false, false]) (o_Scanner__join : OkMt P w K mg base (gm P w K) 2 "Scanner" "_join" ["self", "last", "first"] sem_Scanner__join [true, false, false]) (o_merged : OkF P w K mg base (gm P w K) 1 "_merged" ["one", "two"] sem_merged [false, false]) : OkMt P w K mg base (gm P w K) 3 "Scanner" "_row" ["self", "parts"] sem_Scanner__row [true, false] := by
  obtain ⟨fd, F⟩ := Z.f_Scanner__row
  exact ⟨_, _, fd, rfl, Z.hC.cls "Scanner" _ rfl, Z.mt_Scanner__row, F.bindsN fun _ _ _ _ _ _ us hl => (match us, hl with | [_, _], _ => rfl), at_Scanner__row Z o_Part_init o_Scanner__join o_merged F⟩
theorem at_Scanner__choice (Z : Fc K mg) (o_Scanner__row : OkMt P w K mg base (gm P w K) 3 "Scanner" "_row" ["self", "parts"] sem_Scanner__row [true, false]) (o_merged : OkF P w K mg base (gm P w K) 1 "_merged" ["one", "two"] sem_merged [false, false]) (o_Part_init : OkM P w K mg base (gm P w K) 1 "Part" "Part" ["self", "nullable", "first", "last"] sem_Part_init [false, false, false]) {fa : Addr} {fd : FuncData} (F : FunD K "_choice" "Scanner._choice" (defArgs st_Scanner__choice) (defBody st_Scanner__choice) (defScope st_Scanner__choice) [] [] fa fd) : FnOk P w K mg base (L2.CX P w) 4 fa fd ["self", "frame"] (spOf (gm P w K) sem_Scanner__choice [true, false]) := by
  refine fn_den F sc_Scanner__choice [true, false] 6 2 [0] fun cdv A outer s H E hr => ?_
  have hC := Z.hC
  exact (dss_cons (ds_set (de_fz (de_meth (ms := "_row") 0 o_Scanner__row hr (by decide) (takes_of rfl rfl rfl rfl) (by decide) (dr_v (de_p (dp_ix rfl (dp_var 1) dp_int (fun _ _ => rfl))) dr_nil))) (dg_nm 2 sc_Scanner__choice.nd))
    (dss_cons (ds_for (passes_of rfl) rfl (di_e rfl (de_slice (de_p (dp_var 1)) (do_some de_int) do_none)) (dg_nm 3 sc_Scanner__choice.nd) (dss_cons (ds_set (de_fz (de_meth (ms := "_row") 0 o_Scanner__row hr (by decide) (takes_of rfl rfl rfl rfl) (by decide) (dr_v (de_p (dp_var 3)) dr_nil))) (dg_nm 4 sc_Scanner__choice.nd))
      (dss_cons (ds_set (de_or (de_p (dp_fld (f := "nullable") rfl hC (dp_var 2))) (de_one (de_p (dp_fld (f := "nullable") rfl hC (dp_var 4))))) (dg_nm 5 sc_Scanner__choice.nd))
      (dss_one (ds_set (de_fz (de_make o_Part_init hr (by decide) (takes_of rfl rfl rfl rfl) rfl (dr_v (de_p (dp_var 5)) (dr_v (de_callF o_merged hr (by decide) (takes_of rfl rfl rfl rfl) rfl (dr_v (de_p (dp_fld (f := "first") rfl hC (dp_var 2))) (dr_v (de_p (dp_fld (f := "first") rfl hC (dp_var 4))) dr_nil))) (dr_v (de_callF o_merged hr (by decide) (takes_of rfl rfl rfl rfl) rfl (dr_v (de_p (dp_fld (f := "last") rfl hC (dp_var 2))) (dr_v (de_p (dp_fld (f := "last") rfl hC (dp_var 4))) dr_nil))) dr_nil))))) (dg_nm 2 sc_Scanner__choice.nd))))))
    (dss_one (ds_ret (de_p (dp_var 2))))))
theorem ok_Scanner__choice (Z : Fc K mg) (o_Scanner__row : OkMt P w K mg base (gm P w K) 3 "Scanner" "_row" ["self", "parts"] sem_Scanner__row [true, false]) (o_merged : OkF P w K mg base (gm P w K) 1 "_merged" ["one", "two"] sem_merged [false, false]) (o_Part_init : OkM P w K mg base (gm P w K) 1 "Part" "Part" ["self", "nullable", "first", "last"] sem_Part_init [false, false, false]) : OkMt P w K mg base (gm P w K) 4 "Scanner" "_choice" ["self", "frame"] sem_Scanner__choice [true, false] := by
  obtain ⟨fd, F⟩ := Z.f_Scanner__choice
  exact ⟨_, _, fd, rfl, Z.hC.cls "Scanner" _ rfl, Z.mt_Scanner__choice, F.bindsN fun _ _ _ _ _ _ us hl => (match us, hl with | [_, _], _ => rfl), at_Scanner__choice Z o_Scanner__row o_merged o_Part_init F⟩
theorem at_Scanner__close (Z : Fc K mg) (o_Scanner_is_closed : OkMt P w K mg base (gm P w K) 1 "Scanner" "is_closed" ["self"] sem_Scanner_is_closed [true]) (o_Scanner__choice : OkMt P w K mg base (gm P w K) 4 "Scanner" "_choice" ["self", "frame"] sem_Scanner__choice [true, false]) (o_Scanner__add : OkMt P w K mg base (gm P w K) 1 "Scanner" "_add" ["self", "part"] sem_Scanner__add [true, false]) {fa : Addr} {fd : FuncData} (F : FunD K "_close" "Scanner._close" (defArgs st_Scanner__close) (defBody st_Scanner__close) (defScope st_Scanner__close) [] [] fa fd) : FnOk P w K mg base (L2.CX P w) 5 fa fd ["self"] (spOf (gm P w K) sem_Scanner__close [true]) := by
  refine fn_den F sc_Scanner__close [true] 2 1 [0] fun cdv A outer s H E hr => ?_
  have hC := Z.hC
  exact (dss_cons (ds_if (dt_e rfl (de_meth0 (ms := "is_closed") 0 o_Scanner_is_closed hr (by decide) (takes_of rfl rfl rfl rfl) (by decide))) (dss_one (ds_ret de_bl)) dss_nil)
    (dss_cons (ds_set (de_fz (de_popP 0 (pt_fld (f := "frames") rfl hC (pt_base 0) ptV_sub) (ptFld_sub ptV_sub))) (dg_nm 1 sc_Scanner__close.nd))
    (dss_cons (ds_ex (de_meth (ms := "_add") 0 o_Scanner__add hr (by decide) (takes_of rfl rfl rfl rfl) (by decide) (dr_v (de_meth (ms := "_choice") 0 o_Scanner__choice hr (by decide) (takes_of rfl rfl rfl rfl) (by decide) (dr_v (de_p (dp_var 1)) dr_nil)) dr_nil)))
    (dss_one (ds_ret de_bl)))))
theorem ok_Scanner__close (Z : Fc K mg) (o_Scanner_is_closed : OkMt P w K mg base (gm P w K) 1 "Scanner" "is_closed" ["self"] sem_Scanner_is_closed [true]) (o_Scanner__choice : OkMt P w K mg base (gm P w K) 4 "Scanner" "_choice" ["self", "frame"] sem_Scanner__choice [true, false]) (o_Scanner__add : OkMt P w K mg base (gm P w K) 1 "Scanner" "_add" ["self", "part"] sem_Scanner__add [true, false]) : OkMt P w K mg base (gm P w K) 5 "Scanner" "_close" ["self"] sem_Scanner__close [true] := by
  obtain ⟨fd, F⟩ := Z.f_Scanner__close
  exact ⟨_, _, fd, rfl, Z.hC.cls "Scanner" _ rfl, Z.mt_Scanner__close, F.bindsN fun _ _ _ _ _ _ us hl => (match us, hl with | [_], _ => rfl), at_Scanner__close Z o_Scanner_is_closed o_Scanner__choice o_Scanner__add F⟩
theorem at_Scanner__add_place (Z : Fc K mg) (o_Part_init : OkM P w K mg base (gm P w K) 1 "Part" "Part" ["self", "nullable", "first", "last"] sem_Part_init [false, false, false]) (o_Scanner__add : OkMt P w K mg base (gm P w K) 1 "Scanner" "_add" ["self", "part"] sem_Scanner__add [true, false]) {fa : Addr} {fd : FuncData} (F : FunD K "_add_place" "Scanner._add_place" (defArgs st_Scanner__add_place) (defBody st_Scanner__add_place) (defScope st_Scanner__add_place) [] [] fa fd) : FnOk P w K mg base (L2.CX P w) 3 fa fd ["self", "mark"] (spOf (gm P w K) sem_Scanner__add_place [true, false]) := by
  refine fn_den F sc_Scanner__add_place [true, false] 3 2 [0] fun cdv A outer s H E hr => ?_
  have hC := Z.hC
  exact (dss_cons (ds_appP 0 (pt_fld (f := "marks") rfl hC (pt_base 0) ptV_sub) (ptFld_sub ptV_sub) (de_p (dp_var 1)))
    (dss_cons (ds_appP 0 (pt_fld (f := "follow") rfl hC (pt_base 0) ptV_sub) (ptFld_sub ptV_sub) (de_fz (de_lst da_nil)))
    (dss_cons (ds_set (de_fz (de_lst (da_cons (de_bin s_sub (de_lenP rfl rfl Z.b_len (dp_fld (f := "marks") rfl hC (dp_var 0))) de_int) da_nil))) (dg_nm 2 sc_Scanner__add_place.nd))
    (dss_one (ds_ex (de_meth (ms := "_add") 0 o_Scanner__add hr (by decide) (takes_of rfl rfl rfl rfl) (by decide) (dr_v (de_make o_Part_init hr (by decide) (takes_of rfl rfl rfl rfl) rfl (dr_v de_bl (dr_v (de_p (dp_var 2)) (dr_v (de_p (dp_var 2)) dr_nil)))) dr_nil)))))))
theorem ok_Scanner__add_place (Z : Fc K mg) (o_Part_init : OkM P w K mg base (gm P w K) 1 "Part" "Part" ["self", "nullable", "first", "last"] sem_Part_init [false, false, false]) (o_Scanner__add : OkMt P w K mg base (gm P w K) 1 "Scanner" "_add" ["self", "part"] sem_Scanner__add [true, false]) : OkMt P w K mg base (gm P w K) 3 "Scanner" "_add_place" ["self", "mark"] sem_Scanner__add_place [true, false] := by
  obtain ⟨fd, F⟩ := Z.f_Scanner__add_place
  exact ⟨_, _, fd, rfl, Z.hC.cls "Scanner" _ rfl, Z.mt_Scanner__add_place, F.bindsN fun _ _ _ _ _ _ us hl => (match us, hl with | [_, _], _ => rfl), at_Scanner__add_place Z o_Part_init o_Scanner__add F⟩
theorem at_Scanner_take (Z : Fc K mg) (o_Scanner__take_star : OkMt P w K mg base (gm P w K) 3 "Scanner" "_take_star" ["self", "sign"] sem_Scanner__take_star [true, false]) (o_Scanner__close : OkMt P w K mg base (gm P w K) 5 "Scanner" "_close" ["self"] sem_Scanner__close [true]) (o_Scanner__add_place : OkMt P w K mg base (gm P w K) 3 "Scanner" "_add_place" ["self", "mark"] sem_Scanner__add_place [true, false]) {fa : Addr} {fd : FuncData} (F : FunD K "take" "Scanner.take" (defArgs st_Scanner_take) (defBody st_Scanner_take) (defScope st_Scanner_take) [] [] fa fd) : FnOk P w K mg base (L2.CX P w) 6 fa fd ["self", "sign"] (spOf (gm P w K) sem_Scanner_take [true, false]) := by
  refine fn_den F sc_Scanner_take [true, false] 2 2 [0] fun cdv A outer s H E hr => ?_
  have hC := Z.hC
  exact (dss_cons (ds_fAug 0 (f := "signs") rfl hC de_int)
    (dss_cons (ds_if (dt_inP (b_in (room65 hr)) ob_in (de_p (dp_var 1)) (dp_gstr rfl Z.k_STARS.choose_spec)) (dss_one (ds_ret (de_meth (ms := "_take_star") 0 o_Scanner__take_star hr (by decide) (takes_of rfl rfl rfl rfl) (by decide) (dr_v (de_p (dp_var 1)) dr_nil)))) dss_nil)
    (dss_cons (ds_if (dt_cmp (s_eq hr.units) ob_eq (de_p (dp_var 1)) de_str) (dss_cons (ds_appP 0 (pt_fld (f := "frames") rfl hC (pt_base 0) ptV_sub) (ptFld_sub ptV_sub) (de_lst (da_cons (de_lst da_nil) da_nil)))
      (dss_cons (ds_setF 0 (f := "starred") rfl hC de_bl)
      (dss_one (ds_ret de_bl)))) dss_nil)
    (dss_cons (ds_if (dt_cmp (s_eq hr.units) ob_eq (de_p (dp_var 1)) de_str) (dss_one (ds_ret (de_meth0 (ms := "_close") 0 o_Scanner__close hr (by decide) (takes_of rfl rfl rfl rfl) (by decide)))) dss_nil)
    (dss_cons (ds_if (dt_cmp (s_eq hr.units) ob_eq (de_p (dp_var 1)) de_str) (dss_cons (ds_appP 0 (pt_ix (pt_fld (f := "frames") rfl hC (pt_base 0) ptV_sub) dp_neg (fun _ _ => rfl) (ptFld_sub ptV_sub)) (ptIx_sub (ptFld_sub ptV_sub)) (de_lst da_nil))
      (dss_cons (ds_setF 0 (f := "starred") rfl hC de_bl)
      (dss_one (ds_ret de_bl)))) dss_nil)
    (dss_cons (ds_if (dt_w (dw_and (dt_cmp (s_ne hr.units) ob_ne (de_p (dp_var 1)) de_str) (dw_and1 (dt_inP (b_notin (room65 hr)) ob_notin (de_p (dp_var 1)) (dp_fld (f := "alphabet") rfl hC (dp_var 0)))))) (dss_one (ds_ret de_bl)) dss_nil)
    (dss_cons (ds_ex (de_meth (ms := "_add_place") 0 o_Scanner__add_place hr (by decide) (takes_of rfl rfl rfl rfl) (by decide) (dr_v (de_if (dt_cmp (s_eq hr.units) ob_eq (de_p (dp_var 1)) de_str) de_non (de_index (room65 hr) (de_p (dp_fld (f := "alphabet") rfl hC (dp_var 0))) (de_p (dp_var 1)))) dr_nil)))
    (dss_one (ds_ret de_bl)))))))))
theorem ok_Scanner_take (Z : Fc K mg) (o_Scanner__take_star : OkMt P w K mg base (gm P w K) 3 "Scanner" "_take_star" ["self", "sign"] sem_Scanner__take_star [true, false]) (o_Scanner__close : OkMt P w K mg base (gm P w K) 5 "Scanner" "_close" ["self"] sem_Scanner__close [true]) (o_Scanner__add_place : OkMt P w K mg base (gm P w K) 3 "Scanner" "_add_place" ["self", "mark"] sem_Scanner__add_place [true, false]) : OkMt P w K mg base (gm P w K) 6 "Scanner" "take" ["self", "sign"] sem_Scanner_take [true, false] := by
  obtain ⟨fd, F⟩ := Z.f_Scanner_take
  exact ⟨_, _, fd, rfl, Z.hC.cls "Scanner" _ rfl, Z.mt_Scanner_take, F.bindsN fun _ _ _ _ _ _ us hl => (match us, hl with | [_, _], _ => rfl), at_Scanner_take Z o_Scanner__take_star o_Scanner__close o_Scanner__add_place F⟩
theorem at_Scanner_network (Z : Fc K mg) (o_Scanner__choice : OkMt P w K mg base (gm P w K) 4 "Scanner" "_choice" ["self", "frame"] sem_Scanner__choice [true, false]) (o_Network_init : OkM P w K mg base (gm P w K) 1 "Network" "Network" ["self", "marks", "follow", "ends"] sem_Network_init [false, false, false]) {fa : Addr} {fd : FuncData} (F : FunD K "network" "Scanner.network" (defArgs st_Scanner_network) (defBody st_Scanner_network) (defScope st_Scanner_network) [] [] fa fd) : FnOk P w K mg base (L2.CX P w) 5 fa fd ["self"] (spOf (gm P w K) sem_Scanner_network [true]) := by
  refine fn_den F sc_Scanner_network [true] 5 1 [0] fun cdv A outer s H E hr => ?_
  have hC := Z.hC
  exact (dss_cons (ds_set (de_fz (de_meth (ms := "_choice") 0 o_Scanner__choice hr (by decide) (takes_of rfl rfl rfl rfl) (by decide) (dr_v (de_rdP 0 (pt_ix (pt_fld (f := "frames") rfl hC (pt_base 0) ptV_sub) dp_int (fun _ _ => rfl) (ptFld_sub ptV_sub)) (ptIx_sub (ptFld_sub ptV_sub))) dr_nil))) (dg_nm 1 sc_Scanner_network.nd))
    (dss_cons (ds_set (de_fz (de_bin s_add (de_lst (da_cons (de_callT c_list rfl Z.b_list bt_list (de_p (dp_fld (f := "first") rfl hC (dp_var 1)))) da_nil)) (de_comp rfl sc_Scanner_network.nd (own := [("places", 4)]) (di_e rfl (de_slice (de_rdP 0 (pt_fld (f := "follow") rfl hC (pt_base 0) ptV_sub) (ptFld_sub ptV_sub)) (do_some de_int) do_none)) (blkOk_by (show blkC nm_Scanner_network (defScope st_Scanner_network) _ _ = true from by decide +kernel)) (fun _ _ _ _ _ => (dg_nm 4 sc_Scanner_network.nd)) (fun _ _ _ _ _ => dts_nil) (fun _ _ _ _ _ => (de_callT c_list rfl Z.b_list bt_list (de_p (dp_var 4))))))) (dg_nm 2 sc_Scanner_network.nd))
    (dss_cons (ds_set (de_fz (de_bin s_add (de_if (dt_p rfl (dp_fld (f := "nullable") rfl hC (dp_var 1))) (de_lst (da_cons de_int da_nil)) (de_lst da_nil)) (de_p (dp_fld (f := "last") rfl hC (dp_var 1))))) (dg_nm 3 sc_Scanner_network.nd))
    (dss_one (ds_ret (de_make o_Network_init hr (by decide) (takes_of rfl rfl rfl rfl) rfl (dr_v (de_callT c_list rfl Z.b_list bt_list (de_rdP 0 (pt_fld (f := "marks") rfl hC (pt_base 0) ptV_sub) (ptFld_sub ptV_sub))) (dr_v (de_p (dp_var 2)) (dr_v (de_p (dp_var 3)) dr_nil)))))))))
theorem ok_Scanner_network (Z : Fc K mg) (o_Scanner__choice : OkMt P w K mg base (gm P w K) 4 "Scanner" "_choice" ["self", "frame"] sem_Scanner__choice [true, false]) (o_Network_init : OkM P w K mg base (gm P w K) 1 "Network" "Network" ["self", "marks", "follow", "ends"] sem_Network_init [false, false, false]) : OkMt P w K mg base (gm P w K) 5 "Scanner" "network" ["self"] sem_Scanner_network [true] := by
  obtain ⟨fd, F⟩ := Z.f_Scanner_network
  exact ⟨_, _, fd, rfl, Z.hC.cls "Scanner" _ rfl, Z.mt_Scanner_network, F.bindsN fun _ _ _ _ _ _ us hl => (match us, hl with | [_], _ => rfl), at_Scanner_network Z o_Scanner__choice o_Network_init F⟩
theorem at_scanned (Z : Fc K mg) (o_Scanner_init : OkM P w K mg base (gm P w K) 1 "Scanner" "Scanner" ["self", "alphabet"] sem_Scanner_init [false]) (o_Scanner_is_closed : OkMt P w K mg base (gm P w K) 1 "Scanner" "is_closed" ["self"] sem_Scanner_is_closed [true]) (o_Scanner_take : OkMt P w K mg base (gm P w K) 6 "Scanner" "take" ["self", "sign"] sem_Scanner_take [true, false]) {fa : Addr} {fd : FuncData} (F : FunD K "scanned" "scanned" (defArgs st_scanned) (defBody st_scanned) (defScope st_scanned) [] [] fa fd) : FnOk P w K mg base (L2.CX P w) 7 fa fd ["alphabet", "text", "start", "stops"] (spOf (gm P w K) sem_scanned [false, false, false, false]) := by
  refine fn_den F sc_scanned [false, false, false, false] 6 4 [] fun cdv A outer s H E hr => ?_
  have hC := Z.hC
  exact (dss_cons (ds_set (de_make o_Scanner_init hr (by decide) (takes_of rfl rfl rfl rfl) rfl (dr_v (de_p (dp_var 0)) dr_nil)) (dg_nm 4 sc_scanned.nd))
    (dss_cons (ds_set (de_p (dp_var 2)) (dg_nm 5 sc_scanned.nd))
    (dss_cons (ds_while (passes_of rfl) (dt_cmp (s_lt hr.units) ob_lt (de_p (dp_var 5)) (de_lenP rfl rfl Z.b_len (dp_var 1))) (dss_cons (ds_if (dt_w (dw_and (dt_e rfl (de_meth0 (ms := "is_closed") 4 o_Scanner_is_closed hr (by decide) (takes_of rfl rfl rfl rfl) (by decide))) (dw_and1 (dt_inP (b_in (room65 hr)) ob_in (de_p (dp_ix rfl (dp_var 1) (dp_var 5) (fun _ _ => rfl))) (dp_var 3))))) (dss_one (ds_ret (de_tup (da_cons (de_mv 4) (da_cons (de_p (dp_var 5)) (da_cons de_non da_nil)))))) dss_nil)
      (dss_cons (ds_if (dt_cmp (s_eq hr.units) ob_eq (de_p (dp_fld (f := "signs") rfl hC (dp_var 4))) (de_gint rfl Z.k_MOST_SIGNS.choose_spec)) (dss_one (ds_ret (de_tup (da_cons (de_mv 4) (da_cons (de_p (dp_var 5)) (da_cons de_str da_nil)))))) dss_nil)
      (dss_cons (ds_if (dt_not (dt_e rfl (de_meth (ms := "take") 4 o_Scanner_take hr (by decide) (takes_of rfl rfl rfl rfl) (by decide) (dr_v (de_p (dp_ix rfl (dp_var 1) (dp_var 5) (fun _ _ => rfl))) dr_nil)))) (dss_one (ds_ret (de_tup (da_cons (de_mv 4) (da_cons (de_p (dp_var 5)) (da_cons de_str da_nil)))))) dss_nil)
      (dss_one (ds_augI 5 de_int sc_scanned.nd))))))
    (dss_cons (ds_if (dt_not (dt_e rfl (de_meth0 (ms := "is_closed") 4 o_Scanner_is_closed hr (by decide) (takes_of rfl rfl rfl rfl) (by decide)))) (dss_one (ds_ret (de_tup (da_cons (de_mv 4) (da_cons (de_p (dp_var 5)) (da_cons de_str da_nil)))))) dss_nil)
    (dss_one (ds_ret (de_tup (da_cons (de_mv 4) (da_cons (de_p (dp_var 5)) (da_cons de_non da_nil))))))))))
theorem ok_scanned (Z : Fc K mg) (o_Scanner_init : OkM P w K mg base (gm P w K) 1 "Scanner" "Scanner" ["self", "alphabet"] sem_Scanner_init [false]) (o_Scanner_is_closed : OkMt P w K mg base (gm P w K) 1 "Scanner" "is_closed" ["self"] sem_Scanner_is_closed [true]) (o_Scanner_take : OkMt P w K mg base (gm P w K) 6 "Scanner" "take" ["self", "sign"] sem_Scanner_take [true, false]) : OkF P w K mg base (gm P w K) 7 "scanned" ["alphabet", "text", "start", "stops"] sem_scanned [false, false, false, false] := by
  obtain ⟨fa, fd, hm, F⟩ := Z.f_scanned
  exact ⟨fa, fd, hm, F.kp, F.bindsN fun _ _ _ _ _ _ us hl => (match us, hl with | [_, _, _, _], _ => rfl), at_scanned Z o_Scanner_init o_Scanner_is_closed o_Scanner_take F⟩
theorem at_codes (Z : Fc K mg) {fa : Addr} {fd : FuncData} (F : FunD K "codes" "codes" (defArgs st_codes) (defBody st_codes) (defScope st_codes) [] [] fa fd) : FnOk P w K mg base (L2.CX P w) 1 fa fd ["alphabet", "word"] (spOf (gm P w K) sem_codes [false, false]) := by
  refine fn_den F sc_codes [false, false] 3 2 [] fun cdv A outer s H E hr => ?_
  exact (dss_one (ds_ret (de_comp rfl sc_codes.nd (own := [("letter", 2)]) (di_e rfl (de_p (dp_var 1))) (blkOk_by (show blkC nm_codes (defScope st_codes) _ _ = true from by decide +kernel)) (fun _ _ _ _ _ => (dg_nm 2 sc_codes.nd)) (fun _ _ _ _ _ => dts_nil) (fun _ _ _ _ _ => (de_index (room65 hr) (de_p (dp_var 0)) (de_p (dp_var 2)))))))
theorem ok_codes (Z : Fc K mg) : OkF P w K mg base (gm P w K) 1 "codes" ["alphabet", "word"] sem_codes [false, false] := by
  obtain ⟨fa, fd, hm, F⟩ := Z.f_codes
  exact ⟨fa, fd, hm, F.kp, F.bindsN fun _ _ _ _ _ _ us hl => (match us, hl with | [_, _], _ => rfl), at_codes Z F⟩
theorem at_Pattern_init (Z : Fc K mg) (o_scanned : OkF P w K mg base (gm P w K) 7 "scanned" ["alphabet", "text", "start", "stops"] sem_scanned [false, false, false, false]) (o_Scanner_network : OkMt P w K mg base (gm P w K) 5 "Scanner" "network" ["self"] sem_Scanner_network [true]) {fa : Addr} {fd : FuncData} (F : FunD K "__init__" "Pattern.__init__" (defArgs st_Pattern_init) (defBody st_Pattern_init) (defScope st_Pattern_init) [] [] fa fd) : FnOk P w K mg base (L2.CX P w) 8 fa fd ["self", "alphabet", "text"] (spOf (gm P w K) sem_Pattern_init [true, false, false]) := by
  refine fn_den F sc_Pattern_init [true, false, false] 6 3 [0] fun cdv A outer s H E hr => ?_
  have hC := Z.hC
  exact (dss_cons (ds_set (de_callF o_scanned hr (by decide) (takes_of rfl rfl rfl rfl) rfl (dr_v (de_p (dp_var 1)) (dr_v (de_p (dp_var 2)) (dr_v de_int (dr_v de_str dr_nil))))) (dg_tp rfl rfl (dgs_cons (dg_nm 3 sc_Pattern_init.nd) (dgs_cons (dg_nm 4 sc_Pattern_init.nd) (dgs_cons (dg_nm 5 sc_Pattern_init.nd) dgs_nil)))))
    (dss_cons (ds_if (dt_cmp s_isnot ob_isnot (de_p (dp_var 5)) de_non) (dss_one ds_never) dss_nil)
    (dss_cons (ds_setF 0 (f := "alphabet") rfl hC (de_p (dp_var 1)))
    (dss_cons (ds_setF 0 (f := "text") rfl hC (de_p (dp_var 2)))
    (dss_one (ds_setF 0 (f := "network") rfl hC (de_meth0 (ms := "network") 3 o_Scanner_network hr (by decide) (takes_of rfl rfl rfl rfl) (by decide))))))))
theorem ok_Pattern_init (Z : Fc K mg) (o_scanned : OkF P w K mg base (gm P w K) 7 "scanned" ["alphabet", "text", "start", "stops"] sem_scanned [false, false, false, false]) (o_Scanner_network : OkMt P w K mg base (gm P w K) 5 "Scanner" "network" ["self"] sem_Scanner_network [true]) : OkM P w K mg base (gm P w K) 8 "Pattern" "Pattern" ["self", "alphabet", "text"] sem_Pattern_init [false, false] := by
  obtain ⟨fd, F⟩ := Z.f_Pattern_init
  exact ⟨_, _, fd, Z.c_Pattern, rfl, Z.mk_Pattern, F.bindsN fun _ _ _ _ _ _ us hl => (match us, hl with | [_, _, _], _ => rfl), at_Pattern_init Z o_scanned o_Scanner_network F⟩
theorem at_matches (Z : Fc K mg) (o_codes : OkF P w K mg base (gm P w K) 1 "codes" ["alphabet", "word"] sem_codes [false, false]) (o_describes : OkF P w K mg base (gm P w K) 2 "describes" ["network", "indexes"] sem_describes [false, false]) {fa : Addr} {fd : FuncData} (F : FunD K "matches" "matches" (defArgs st_matches) (defBody st_matches) (defScope st_matches) [] [] fa fd) : FnOk P w K mg base (L2.CX P w) 3 fa fd ["pattern", "word"] (spOf (gm P w K) sem_matches [false, false]) := by
  refine fn_den F sc_matches [false, false] 2 2 [] fun cdv A outer s H E hr => ?_
  have hC := Z.hC
  exact (dss_one (ds_ret (de_callF o_describes hr (by decide) (takes_of rfl rfl rfl rfl) rfl (dr_v (de_p (dp_fld (f := "network") rfl hC (dp_var 0))) (dr_v (de_callF o_codes hr (by decide) (takes_of rfl rfl rfl rfl) rfl (dr_v (de_p (dp_fld (f := "alphabet") rfl hC (dp_var 0))) (dr_v (de_p (dp_var 1)) dr_nil))) dr_nil)))))
theorem ok_matches (Z : Fc K mg) (o_codes : OkF P w K mg base (gm P w K) 1 "codes" ["alphabet", "word"] sem_codes [false, false]) (o_describes : OkF P w K mg base (gm P w K) 2 "describes" ["network", "indexes"] sem_describes [false, false]) : OkF P w K mg base (gm P w K) 3 "matches" ["pattern", "word"] sem_matches [false, false] := by
  obtain ⟨fa, fd, hm, F⟩ := Z.f_matches
  exact ⟨fa, fd, hm, F.kp, F.bindsN fun _ _ _ _ _ _ us hl => (match us, hl with | [_, _], _ => rfl), at_matches Z o_codes o_describes F⟩
theorem at_law_cell (Z : Fc K mg) {fa : Addr} {fd : FuncData} (F : FunD K "_law_cell" "_law_cell" (defArgs st_law_cell) (defBody st_law_cell) (defScope st_law_cell) [] [] fa fd) : FnOk P w K mg base (L2.CX P w) 1 fa fd ["_law_script", "_law_k"] (spOf (gm P w K) sem_law_cell [false, false]) := by
  refine fn_den F sc_law_cell [false, false] 2 2 [] fun cdv A outer s H E hr => ?_
  exact (dss_cons (ds_if (dt_cmp (s_lt hr.units) ob_lt (de_p (dp_var 1)) (de_lenP rfl rfl Z.b_len (dp_var 0))) (dss_one (ds_ret (de_p (dp_ix rfl (dp_var 0) (dp_var 1) (fun _ _ => rfl))))) dss_nil)
    (dss_one (ds_ret de_int)))
theorem ok_law_cell (Z : Fc K mg) : OkF P w K mg base (gm P w K) 1 "_law_cell" ["_law_script", "_law_k"] sem_law_cell [false, false] := by
  obtain ⟨fa, fd, hm, F⟩ := Z.f_law_cell
  exact ⟨fa, fd, hm, F.kp, F.bindsN fun _ _ _ _ _ _ us hl => (match us, hl with | [_, _], _ => rfl), at_law_cell Z F⟩
theorem at_law_row (Z : Fc K mg) (o_law_cell : OkF P w K mg base (gm P w K) 1 "_law_cell" ["_law_script", "_law_k"] sem_law_cell [false, false]) {fa : Addr} {fd : FuncData} (F : FunD K "_law_row" "_law_row" (defArgs st_law_row) (defBody st_law_row) (defScope st_law_row) [] [] fa fd) : FnOk P w K mg base (L2.CX P w) 2 fa fd ["_law_script", "_law_first", "_law_last"] (spOf (gm P w K) sem_law_row [false, false, false]) := by
  refine fn_den F sc_law_row [false, false, false] 7 3 [] fun cdv A outer s H E hr => ?_
  exact (dss_cons (ds_set (de_lst da_nil) (dg_nm 3 sc_law_row.nd))
    (dss_cons (ds_for (passes_of rfl) rfl (di_range2 rfl Z.b_range (de_p (dp_var 1)) (de_p (dp_var 2))) (dg_nm 4 sc_law_row.nd) (dss_cons (ds_set (de_fz (de_callF o_law_cell hr (by decide) (takes_of rfl rfl rfl rfl) rfl (dr_v (de_p (dp_var 0)) (dr_v (de_p (dp_var 4)) dr_nil)))) (dg_nm 5 sc_law_row.nd))
      (dss_cons (ds_set (de_fz (de_bin s_add (de_callB c_abs rfl Z.b_abs bt_abs (de_bin s_mul de_int (de_p (dp_var 5)))) (de_callT c_int rfl Z.b_int bt_int (de_cmp (s_lt hr.units) (de_p (dp_var 5)) de_int)))) (dg_nm 5 sc_law_row.nd))
      (dss_one (ds_if (dt_cmp s_gt ob_gt (de_p (dp_var 5)) (de_bin s_pow de_int de_int)) (dss_one (ds_for (passes_of rfl) rfl (di_range1 rfl Z.b_range de_int) (dg_nm 6 sc_law_row.nd) (dss_one (ds_if (dt_cmp s_gt ob_gt (de_p (dp_var 5)) de_int) (dss_cons (ds_app 3 rfl (de_bin s_mod (de_callT c_int rfl Z.b_int bt_int (de_p (dp_var 5))) de_int))
            (dss_one (ds_set (de_fz (de_bin s_fdiv (de_p (dp_var 5)) de_int)) (dg_nm 5 sc_law_row.nd)))) dss_nil)))) (dss_one (ds_for (passes_of rfl) rfl (di_range1 rfl Z.b_range de_int) (dg_nm 6 sc_law_row.nd) (dss_cons (ds_set (de_fz (de_bin s_mod (de_callT c_int rfl Z.b_int bt_int (de_bin s_add (de_bin s_add (de_bin s_mul (de_p (dp_var 5)) de_int) (de_bin s_mul de_int (de_bin s_add (de_p (dp_var 4)) (de_p (dp_var 6))))) de_int)) de_int)) (dg_nm 5 sc_law_row.nd))
          (dss_one (ds_app 3 rfl (de_bin s_mod (de_callT c_int rfl Z.b_int bt_int (de_bin s_fdiv (de_p (dp_var 5)) de_int)) de_int)))))))))))
    (dss_one (ds_ret (de_frz 3)))))
theorem ok_law_row (Z : Fc K mg) (o_law_cell : OkF P w K mg base (gm P w K) 1 "_law_cell" ["_law_script", "_law_k"] sem_law_cell [false, false]) : OkF P w K mg base (gm P w K) 2 "_law_row" ["_law_script", "_law_first", "_law_last"] sem_law_row [false, false, false] := by
  obtain ⟨fa, fd, hm, F⟩ := Z.f_law_row
  exact ⟨fa, fd, hm, F.kp, F.bindsN fun _ _ _ _ _ _ us hl => (match us, hl with | [_, _, _], _ => rfl), at_law_row Z o_law_cell F⟩
theorem at_law_draw (Z : Fc K mg) {fa : Addr} {fd : FuncData} (F : FunD K "_law_draw" "_law_draw" (defArgs st_law_draw) (defBody st_law_draw) (defScope st_law_draw) [] [] fa fd) : FnOk P w K mg base (L2.CX P w) 1 fa fd ["_law_box", "_law_many"] (spOf (gm P w K) sem_law_draw [true, false]) := by
  refine fn_den F sc_law_draw [true, false] 3 2 [0] fun cdv A outer s H E hr => ?_
  exact (dss_cons (ds_set (de_p (dp_ix rfl (dp_var 0) dp_int (fun _ _ => rfl))) (dg_nm 2 sc_law_draw.nd))
    (dss_cons (ds_setI 0 rfl (de_bin s_add (de_p (dp_var 2)) de_int) de_int)
    (dss_cons (ds_if (dt_cmp (s_lt hr.units) ob_lt (de_p (dp_var 2)) (de_lenP rfl rfl Z.b_len (dp_ix rfl (dp_var 0) dp_int (fun _ _ => rfl)))) (dss_one (ds_ret (de_bin s_mod (de_callT c_int rfl Z.b_int bt_int (de_p (dp_ix rfl (dp_ix rfl (dp_var 0) dp_int (fun _ _ => rfl)) (dp_var 2) (fun _ _ => rfl)))) (de_p (dp_var 1))))) dss_nil)
    (dss_one (ds_ret (de_bin s_mod (de_callT c_int rfl Z.b_int bt_int (de_bin s_add (de_bin s_mul (de_p (dp_var 2)) de_int) de_int)) (de_p (dp_var 1))))))))
theorem ok_law_draw (Z : Fc K mg) : OkF P w K mg base (gm P w K) 1 "_law_draw" ["_law_box", "_law_many"] sem_law_draw [true, false] := by
  obtain ⟨fa, fd, hm, F⟩ := Z.f_law_draw
  exact ⟨fa, fd, hm, F.kp, F.bindsN fun _ _ _ _ _ _ us hl => (match us, hl with | [_, _], _ => rfl), at_law_draw Z F⟩
theorem at_law_alphabet (Z : Fc K mg) (o_law_draw : OkF P w K mg base (gm P w K) 1 "_law_draw" ["_law_box", "_law_many"] sem_law_draw [true, false]) {fa : Addr} {fd : FuncData} (F : FunD K "_law_alphabet" "_law_alphabet" (defArgs st_law_alphabet) (defBody st_law_alphabet) (defScope st_law_alphabet) [] [] fa fd) : FnOk P w K mg base (L2.CX P w) 2 fa fd ["_law_box", "_law_many"] (spOf (gm P w K) sem_law_alphabet [true, false]) := by
  refine fn_den F sc_law_alphabet [true, false] 4 2 [0] fun cdv A outer s H E hr => ?_
  exact (dss_cons (ds_set de_str (dg_nm 2 sc_law_alphabet.nd))
    (dss_cons (ds_set (de_fz (de_callF o_law_draw hr (by decide) (takes_of rfl rfl rfl rfl) rfl (dr_io 0 (dr_v de_int dr_nil)))) (dg_nm 3 sc_law_alphabet.nd))
    (dss_one (ds_ret (de_slice (de_p (dp_var 2)) (do_some (de_p (dp_var 3))) (do_some (de_bin s_add (de_p (dp_var 3)) (de_p (dp_var 1)))))))))
theorem ok_law_alphabet (Z : Fc K mg) (o_law_draw : OkF P w K mg base (gm P w K) 1 "_law_draw" ["_law_box", "_law_many"] sem_law_draw [true, false]) : OkF P w K mg base (gm P w K) 2 "_law_alphabet" ["_law_box", "_law_many"] sem_law_alphabet [true, false] := by
  obtain ⟨fa, fd, hm, F⟩ := Z.f_law_alphabet
  exact ⟨fa, fd, hm, F.kp, F.bindsN fun _ _ _ _ _ _ us hl => (match us, hl with | [_, _], _ => rfl), at_law_alphabet Z o_law_draw F⟩
theorem at_law_words (Z : Fc K mg) {fa : Addr} {fd : FuncData} (F : FunD K "_law_words" "_law_words" (defArgs st_law_words) (defBody st_law_words) (defScope st_law_words) [] [] fa fd) : FnOk P w K mg base (L2.CX P w) 1 fa fd ["_law_alphabet_here", "_law_most"] (spOf (gm P w K) sem_law_words [false, false]) := by
  refine fn_den F sc_law_words [false, false] 8 2 [] fun cdv A outer s H E hr => ?_
  exact (dss_cons (ds_set (de_fz (de_lst (da_cons de_str da_nil))) (dg_nm 2 sc_law_words.nd))
    (dss_cons (ds_set (de_fz (de_lst (da_cons de_str da_nil))) (dg_nm 3 sc_law_words.nd))
    (dss_cons (ds_for (passes_of rfl) rfl (di_range1 rfl Z.b_range (de_p (dp_var 1))) (dg_nm 4 sc_law_words.nd) (dss_cons (ds_set (de_fz (de_lst da_nil)) (dg_nm 5 sc_law_words.nd))
      (dss_cons (ds_for (passes_of rfl) rfl (di_e rfl (de_p (dp_var 3))) (dg_nm 6 sc_law_words.nd) (dss_one (ds_set (de_fz (de_bin s_add (de_p (dp_var 5)) (de_comp rfl sc_law_words.nd (own := [("_law_letter", 7)]) (di_e rfl (de_p (dp_var 0))) (blkOk_by (show blkC nm_law_words (defScope st_law_words) _ _ = true from by decide +kernel)) (fun _ _ _ _ _ => (dg_nm 7 sc_law_words.nd)) (fun _ _ _ _ _ => dts_nil) (fun _ _ _ _ _ => (de_bin s_add (de_p (dp_var 6)) (de_p (dp_var 7))))))) (dg_nm 5 sc_law_words.nd))))
      (dss_cons (ds_set (de_p (dp_var 5)) (dg_nm 3 sc_law_words.nd))
      (dss_one (ds_set (de_fz (de_bin s_add (de_p (dp_var 2)) (de_p (dp_var 3)))) (dg_nm 2 sc_law_words.nd)))))))
    (dss_one (ds_ret (de_p (dp_var 2)))))))
theorem ok_law_words (Z : Fc K mg) : OkF P w K mg base (gm P w K) 1 "_law_words" ["_law_alphabet_here", "_law_most"] sem_law_words [false, false] := by
  obtain ⟨fa, fd, hm, F⟩ := Z.f_law_words
  exact ⟨fa, fd, hm, F.kp, F.bindsN fun _ _ _ _ _ _ us hl => (match us, hl with | [_, _], _ => rfl), at_law_words Z F⟩
theorem at_law_word (Z : Fc K mg) (o_law_draw : OkF P w K mg base (gm P w K) 1 "_law_draw" ["_law_box", "_law_many"] sem_law_draw [true, false]) {fa : Addr} {fd : FuncData} (F : FunD K "_law_word" "_law_word" (defArgs st_law_word) (defBody st_law_word) (defScope st_law_word) [] [] fa fd) : FnOk P w K mg base (L2.CX P w) 2 fa fd ["_law_box", "_law_alphabet_here", "_law_most"] (spOf (gm P w K) sem_law_word [true, false, false]) := by
  refine fn_den F sc_law_word [true, false, false] 4 3 [0] fun cdv A outer s H E hr => ?_
  exact (dss_one (ds_ret (de_join de_str (de_comp rfl sc_law_word.nd (own := [("_law_k", 3)]) (di_range1 rfl Z.b_range (de_callF o_law_draw hr (by decide) (takes_of rfl rfl rfl rfl) rfl (dr_io 0 (dr_v (de_bin s_add (de_p (dp_var 2)) de_int) dr_nil)))) (blkOk_by (show blkC nm_law_word (defScope st_law_word) _ _ = true from by decide +kernel)) (fun _ _ _ _ _ => (dg_nm 3 sc_law_word.nd)) (fun _ _ _ _ _ => dts_nil) (fun _ _ _ _ _ => (de_item rfl (de_p (dp_var 1)) (de_callF o_law_draw hr (by decide) takes0 rfl (dr_io 0 (dr_v (de_lenP rfl rfl Z.b_len (dp_var 1)) dr_nil))) (fun _ _ => rfl)))))))
theorem ok_law_word (Z : Fc K mg) (o_law_draw : OkF P w K mg base (gm P w K) 1 "_law_draw" ["_law_box", "_law_many"] sem_law_draw [true, false]) : OkF P w K mg base (gm P w K) 2 "_law_word" ["_law_box", "_law_alphabet_here", "_law_most"] sem_law_word [true, false, false] := by
  obtain ⟨fa, fd, hm, F⟩ := Z.f_law_word
  exact ⟨fa, fd, hm, F.kp, F.bindsN fun _ _ _ _ _ _ us hl => (match us, hl with | [_, _, _], _ => rfl), at_law_word Z o_law_draw F⟩
theorem at_law_tree (Z : Fc K mg) (o_law_draw : OkF P w K mg base (gm P w K) 1 "_law_draw" ["_law_box", "_law_many"] sem_law_draw [true, false]) (n : Nat) (o_law_tree : OkF P w K mg base (gm P w K) (1 + n) "_law_tree" ["_law_box", "_law_alphabet_here", "_law_depth"] (sem_law_tree n) [true, false, false]) {fa : Addr} {fd : FuncData} (F : FunD K "_law_tree" "_law_tree" (defArgs st_law_tree) (defBody st_law_tree) (defScope st_law_tree) [] [] fa fd) : FnOk P w K mg base (L2.CX P w) (1 + n + 1) fa fd ["_law_box", "_law_alphabet_here", "_law_depth"] (spOf (gm P w K) (sem_law_tree (n + 1)) [true, false, false]) := by
  show FnOk P w K mg base (L2.CX P w) (1 + n + 1) fa fd ["_law_box", "_law_alphabet_here", "_law_depth"] (spOf (gm P w K) (runDef 6 3 [0] (body_law_tree (sem_law_tree n))) [true, false, false])
  refine fn_den F sc_law_tree [true, false, false] 6 3 [0] fun cdv A outer s H E hr => ?_
  exact (dss_cons (ds_set (de_fz (de_callF o_law_draw hr (by omega) (takes_of rfl rfl rfl rfl) rfl (dr_io 0 (dr_v de_int dr_nil)))) (dg_nm 3 sc_law_tree.nd))
    (dss_cons (ds_if (dt_w (dw_or (dt_cmp (s_eq hr.units) ob_eq (de_p (dp_var 2)) de_int) (dw_or1 (dt_cmp (s_lt hr.units) ob_lt (de_p (dp_var 3)) de_int)))) (dss_cons (ds_if (dt_cmp (s_eq hr.units) ob_eq (de_callF o_law_draw hr (by omega) (takes_of rfl rfl rfl rfl) rfl (dr_io 0 (dr_v de_int dr_nil))) de_int) (dss_one (ds_ret (de_lst (da_cons de_str da_nil)))) dss_nil)
      (dss_one (ds_ret (de_lst (da_cons de_str (da_cons (de_item rfl (de_p (dp_var 1)) (de_callF o_law_draw hr (by omega) (takes_of rfl rfl rfl rfl) rfl (dr_io 0 (dr_v (de_lenP rfl rfl Z.b_len (dp_var 1)) dr_nil))) (fun _ _ => rfl)) da_nil)))))) dss_nil)
    (dss_cons (ds_if (dt_cmp (s_lt hr.units) ob_lt (de_p (dp_var 3)) de_int) (dss_one (ds_ret (de_lst (da_cons de_str (da_cons (de_item rfl de_str (de_callF o_law_draw hr (by omega) (takes_of rfl rfl rfl rfl) rfl (dr_io 0 (dr_v de_int dr_nil))) (fun _ _ => rfl)) (da_cons (de_callF o_law_tree hr (by omega) (takes_of rfl rfl rfl rfl) rfl (dr_io 0 (dr_v (de_p (dp_var 1)) (dr_v (de_bin s_sub (de_p (dp_var 2)) de_int) dr_nil)))) da_nil)))))) dss_nil)
    (dss_cons (ds_setLc rfl sc_law_tree.nd (own := [("_law_k", 5)]) (di_range1 rfl Z.b_range (de_callF o_law_draw hr (by omega) (takes_of rfl rfl rfl rfl) rfl (dr_io 0 (dr_v de_int dr_nil)))) (blkOk_by (show blkC nm_law_tree (defScope st_law_tree) _ _ = true from by decide +kernel)) (fun _ _ _ _ _ => (dg_nm 5 sc_law_tree.nd)) (fun _ _ _ _ _ => dts_nil) (fun _ _ _ _ _ => (de_callF o_law_tree hr (by omega) takes0 rfl (dr_io 0 (dr_v (de_p (dp_var 1)) (dr_v (de_bin s_sub (de_p (dp_var 2)) de_int) dr_nil))))) (sw_true rfl rfl rfl (by decide +kernel)) (fun q => fz_imp q))
    (dss_cons (ds_if (dt_cmp (s_lt hr.units) ob_lt (de_p (dp_var 3)) de_int) (dss_one (ds_ret (de_lst (da_cons de_str (da_cons (de_p (dp_var 4)) da_nil))))) dss_nil)
    (dss_cons (ds_if (dt_cmp (s_eq hr.units) ob_eq (de_lenP rfl rfl Z.b_len (dp_var 4)) de_int) (dss_one (ds_set (de_fz (de_lst (da_cons (de_lst (da_cons de_str (da_cons (de_lst da_nil) da_nil))) da_nil))) (dg_nm 4 sc_law_tree.nd))) dss_nil)
    (dss_one (ds_ret (de_lst (da_cons de_str (da_cons (de_p (dp_var 4)) da_nil)))))))))))
theorem okn_law_tree (Z : Fc K mg) (o_law_draw : OkF P w K mg base (gm P w K) 1 "_law_draw" ["_law_box", "_law_many"] sem_law_draw [true, false]) : ∀ n : Nat, OkF P w K mg base (gm P w K) (1 + n) "_law_tree" ["_law_box", "_law_alphabet_here", "_law_depth"] (sem_law_tree n) [true, false, false]
  | 0 => by
    obtain ⟨fa, fd, hm, F⟩ := Z.f_law_tree
    exact ⟨fa, fd, hm, F.kp, F.bindsN fun _ _ _ _ _ _ us hl => (match us, hl with | [_, _, _], _ => rfl), fnok_st⟩
  | n + 1 => by
    obtain ⟨fa, fd, hm, F⟩ := Z.f_law_tree
    exact ⟨fa, fd, hm, F.kp, F.bindsN fun _ _ _ _ _ _ us hl => (match us, hl with | [_, _, _], _ => rfl), at_law_tree Z o_law_draw n (okn_law_tree Z o_law_draw n) F⟩
theorem ok_law_tree (Z : Fc K mg) (o_law_draw : OkF P w K mg base (gm P w K) 1 "_law_draw" ["_law_box", "_law_many"] sem_law_draw [true, false]) : OkF P w K mg base (gm P w K) 13 "_law_tree" ["_law_box", "_law_alphabet_here", "_law_depth"] (sem_law_tree 12) [true, false, false] := okn_law_tree Z o_law_draw 12
theorem at_law_text_of (Z : Fc K mg) (n : Nat) (o_law_text_of : OkF P w K mg base (gm P w K) (0 + n) "_law_text_of" ["_law_tree_here", "_law_level"] (sem_law_text_of n) [false, false]) {fa : Addr} {fd : FuncData} (F : FunD K "_law_text_of" "_law_text_of" (defArgs st_law_text_of) (defBody st_law_text_of) (defScope st_law_text_of) [] [] fa fd) : FnOk P w K mg base (L2.CX P w) (0 + n + 1) fa fd ["_law_tree_here", "_law_level"] (spOf (gm P w K) (sem_law_text_of (n + 1)) [false, false]) := by
  show FnOk P w K mg base (L2.CX P w) (0 + n + 1) fa fd ["_law_tree_here", "_law_level"] (spOf (gm P w K) (runDef 4 2 [] (body_law_text_of (sem_law_text_of n))) [false, false])
  refine fn_den F sc_law_text_of [false, false] 4 2 [] fun cdv A outer s H E hr => ?_
  exact (dss_cons (ds_if (dt_cmp (s_eq hr.units) ob_eq (de_p (dp_ix rfl (dp_var 0) dp_int (fun _ _ => rfl))) de_str) (dss_one (ds_ret de_str)) dss_nil)
    (dss_cons (ds_if (dt_cmp (s_eq hr.units) ob_eq (de_p (dp_ix rfl (dp_var 0) dp_int (fun _ _ => rfl))) de_str) (dss_one (ds_ret (de_p (dp_ix rfl (dp_var 0) dp_int (fun _ _ => rfl))))) dss_nil)
    (dss_cons (ds_if (dt_cmp (s_eq hr.units) ob_eq (de_p (dp_ix rfl (dp_var 0) dp_int (fun _ _ => rfl))) de_str) (dss_cons (ds_set (de_fz (de_bin s_add (de_callF o_law_text_of hr (by omega) (takes_of rfl rfl rfl rfl) rfl (dr_v (de_p (dp_ix rfl (dp_var 0) dp_int (fun _ _ => rfl))) (dr_v (de_bin s_sub de_int (de_callT c_int rfl Z.b_int bt_int (de_cmp (s_eq hr.units) (de_p (dp_ix rfl (dp_ix rfl (dp_var 0) dp_int (fun _ _ => rfl)) dp_int (fun _ _ => rfl))) de_str))) dr_nil))) (de_p (dp_ix rfl (dp_var 0) dp_int (fun _ _ => rfl))))) (dg_nm 2 sc_law_text_of.nd))
      (dss_one (ds_ret (de_item rfl (de_lst (da_cons (de_bin s_add (de_bin s_add de_str (de_p (dp_var 2))) de_str) (da_cons (de_p (dp_var 2)) da_nil))) (de_callT c_int rfl Z.b_int bt_int (de_cmp (s_lt hr.units) (de_p (dp_var 1)) de_int)) (fun _ _ => rfl))))) dss_nil)
    (dss_cons (ds_if (dt_cmp (s_eq hr.units) ob_eq (de_p (dp_ix rfl (dp_var 0) dp_int (fun _ _ => rfl))) de_str) (dss_cons (ds_set (de_fz (de_join de_str (de_comp rfl sc_law_text_of.nd (own := [("_law_part", 3)]) (di_e rfl (de_p (dp_ix rfl (dp_var 0) dp_int (fun _ _ => rfl)))) (blkOk_by (show blkC nm_law_text_of (defScope st_law_text_of) _ _ = true from by decide +kernel)) (fun _ _ _ _ _ => (dg_nm 3 sc_law_text_of.nd)) (fun _ _ _ _ _ => dts_nil) (fun _ _ _ _ _ => (de_callF o_law_text_of hr (by omega) takes0 rfl (dr_v (de_p (dp_var 3)) (dr_v de_int dr_nil))))))) (dg_nm 2 sc_law_text_of.nd))
      (dss_one (ds_ret (de_item rfl (de_lst (da_cons (de_bin s_add (de_bin s_add de_str (de_p (dp_var 2))) de_str) (da_cons (de_p (dp_var 2)) da_nil))) (de_callT c_int rfl Z.b_int bt_int (de_cmp (s_eq hr.units) (de_p (dp_var 1)) de_int)) (fun _ _ => rfl))))) dss_nil)
    (dss_cons (ds_set (de_fz (de_join de_str (de_comp rfl sc_law_text_of.nd (own := [("_law_part", 3)]) (di_e rfl (de_p (dp_ix rfl (dp_var 0) dp_int (fun _ _ => rfl)))) (blkOk_by (show blkC nm_law_text_of (defScope st_law_text_of) _ _ = true from by decide +kernel)) (fun _ _ _ _ _ => (dg_nm 3 sc_law_text_of.nd)) (fun _ _ _ _ _ => dts_nil) (fun _ _ _ _ _ => (de_callF o_law_text_of hr (by omega) takes0 rfl (dr_v (de_p (dp_var 3)) (dr_v de_int dr_nil))))))) (dg_nm 2 sc_law_text_of.nd))
    (dss_one (ds_ret (de_item rfl (de_lst (da_cons (de_bin s_add (de_bin s_add de_str (de_p (dp_var 2))) de_str) (da_cons (de_p (dp_var 2)) da_nil))) (de_callT c_int rfl Z.b_int bt_int (de_and (de_cmp (s_eq hr.units) (de_p (dp_var 1)) de_int) (de_one (de_cmp s_gt (de_lenP rfl rfl Z.b_len (dp_ix rfl (dp_var 0) dp_int (fun _ _ => rfl))) de_int)))) (fun _ _ => rfl)))))))))
theorem okn_law_text_of (Z : Fc K mg) : ∀ n : Nat, OkF P w K mg base (gm P w K) (0 + n) "_law_text_of" ["_law_tree_here", "_law_level"] (sem_law_text_of n) [false, false]
  | 0 => by
    obtain ⟨fa, fd, hm, F⟩ := Z.f_law_text_of
    exact ⟨fa, fd, hm, F.kp, F.bindsN fun _ _ _ _ _ _ us hl => (match us, hl with | [_, _], _ => rfl), fnok_st⟩
  | n + 1 => by
    obtain ⟨fa, fd, hm, F⟩ := Z.f_law_text_of
    exact ⟨fa, fd, hm, F.kp, F.bindsN fun _ _ _ _ _ _ us hl => (match us, hl with | [_, _], _ => rfl), at_law_text_of Z n (okn_law_text_of Z n) F⟩
theorem ok_law_text_of (Z : Fc K mg) : OkF P w K mg base (gm P w K) 12 "_law_text_of" ["_law_tree_here", "_law_level"] (sem_law_text_of 12) [false, false] := okn_law_text_of Z 12
theorem at_law_pattern (Z : Fc K mg) (o_law_tree : OkF P w K mg base (gm P w K) 13 "_law_tree" ["_law_box", "_law_alphabet_here", "_law_depth"] (sem_law_tree 12) [true, false, false]) (o_law_text_of : OkF P w K mg base (gm P w K) 12 "_law_text_of" ["_law_tree_here", "_law_level"] (sem_law_text_of 12) [false, false]) {fa : Addr} {fd : FuncData} (F : FunD K "_law_pattern" "_law_pattern" (defArgs st_law_pattern) (defBody st_law_pattern) (defScope st_law_pattern) [] [] fa fd) : FnOk P w K mg base (L2.CX P w) 14 fa fd ["_law_box", "_law_alphabet_here"] (spOf (gm P w K) sem_law_pattern [true, false]) := by
  refine fn_den F sc_law_pattern [true, false] 5 2 [0] fun cdv A outer s H E hr => ?_
  exact (dss_cons (ds_for (passes_of rfl) rfl (di_range1 rfl Z.b_range de_int) (dg_nm 2 sc_law_pattern.nd) (dss_cons (ds_set (de_fz (de_callF o_law_tree hr (by decide) (takes_of rfl rfl rfl rfl) rfl (dr_io 0 (dr_v (de_p (dp_var 1)) (dr_v de_int dr_nil))))) (dg_nm 3 sc_law_pattern.nd))
      (dss_cons (ds_set (de_fz (de_callF o_law_text_of hr (by decide) (takes_of rfl rfl rfl rfl) rfl (dr_v (de_p (dp_var 3)) (dr_v de_int dr_nil)))) (dg_nm 4 sc_law_pattern.nd))
      (dss_one (ds_if (dt_cmp s_le ob_le (de_lenP rfl rfl Z.b_len (dp_var 4)) de_int) (dss_one (ds_ret (de_lst (da_cons (de_p (dp_var 3)) (da_cons (de_p (dp_var 4)) da_nil))))) dss_nil)))))
    (dss_one (ds_ret (de_lst (da_cons (de_lst (da_cons de_str (da_cons (de_p (dp_ix rfl (dp_var 1) dp_int (fun _ _ => rfl))) da_nil))) (da_cons (de_p (dp_ix rfl (dp_var 1) dp_int (fun _ _ => rfl))) da_nil))))))
theorem ok_law_pattern (Z : Fc K mg) (o_law_tree : OkF P w K mg base (gm P w K) 13 "_law_tree" ["_law_box", "_law_alphabet_here", "_law_depth"] (sem_law_tree 12) [true, false, false]) (o_law_text_of : OkF P w K mg base (gm P w K) 12 "_law_text_of" ["_law_tree_here", "_law_level"] (sem_law_text_of 12) [false, false]) : OkF P w K mg base (gm P w K) 14 "_law_pattern" ["_law_box", "_law_alphabet_here"] sem_law_pattern [true, false] := by
  obtain ⟨fa, fd, hm, F⟩ := Z.f_law_pattern
  exact ⟨fa, fd, hm, F.kp, F.bindsN fun _ _ _ _ _ _ us hl => (match us, hl with | [_, _], _ => rfl), at_law_pattern Z o_law_tree o_law_text_of F⟩
theorem at_law_ends (Z : Fc K mg) (n : Nat) (o_law_ends : OkF P w K mg base (gm P w K) (0 + n) "_law_ends" ["_law_tree_here", "_law_word_here", "_law_starts"] (sem_law_ends n) [false, false, false]) (o_law_starred : OkF P w K mg base (gm P w K) (0 + n) "_law_starred" ["_law_tree_here", "_law_word_here", "_law_starts"] (sem_law_starred n) [false, false, false]) {fa : Addr} {fd : FuncData} (F : FunD K "_law_ends" "_law_ends" (defArgs st_law_ends) (defBody st_law_ends) (defScope st_law_ends) [] [] fa fd) : FnOk P w K mg base (L2.CX P w) (0 + n + 1) fa fd ["_law_tree_here", "_law_word_here", "_law_starts"] (spOf (gm P w K) (sem_law_ends (n + 1)) [false, false, false]) := by
  show FnOk P w K mg base (L2.CX P w) (0 + n + 1) fa fd ["_law_tree_here", "_law_word_here", "_law_starts"] (spOf (gm P w K) (runDef 6 3 [] (body_law_ends (sem_law_ends n) (sem_law_starred n))) [false, false, false])
  refine fn_den F sc_law_ends [false, false, false] 6 3 [] fun cdv A outer s H E hr => ?_
  exact (dss_cons (ds_if (dt_cmp (s_eq hr.units) ob_eq (de_p (dp_ix rfl (dp_var 0) dp_int (fun _ _ => rfl))) de_str) (dss_one (ds_ret (de_comp rfl sc_law_ends.nd (own := [("_law_at", 5)]) (di_e rfl (de_p (dp_var 2))) (blkOk_by (show blkC nm_law_ends (defScope st_law_ends) _ _ = true from by decide +kernel)) (fun _ _ _ _ _ => (dg_nm 5 sc_law_ends.nd)) (fun _ _ _ _ _ => (dts_one (dt_cmp (s_lt hr.units) ob_lt (de_p (dp_var 5)) (de_lenP rfl rfl Z.b_len (dp_var 1))))) (fun _ _ _ _ _ => (de_bin s_add (de_p (dp_var 5)) de_int))))) dss_nil)
    (dss_cons (ds_if (dt_cmp (s_eq hr.units) ob_eq (de_p (dp_ix rfl (dp_var 0) dp_int (fun _ _ => rfl))) de_str) (dss_one (ds_ret (de_comp rfl sc_law_ends.nd (own := [("_law_at", 5)]) (di_e rfl (de_p (dp_var 2))) (blkOk_by (show blkC nm_law_ends (defScope st_law_ends) _ _ = true from by decide +kernel)) (fun _ _ _ _ _ => (dg_nm 5 sc_law_ends.nd)) (fun _ _ _ _ _ => (dts_one (dt_w (dw_and (dt_cmp (s_lt hr.units) ob_lt (de_p (dp_var 5)) (de_lenP rfl rfl Z.b_len (dp_var 1))) (dw_and1 (dt_cmp (s_eq hr.units) ob_eq (de_p (dp_ix rfl (dp_var 1) (dp_var 5) (fun _ _ => rfl))) (de_p (dp_ix rfl (dp_var 0) dp_int (fun _ _ => rfl))))))))) (fun _ _ _ _ _ => (de_bin s_add (de_p (dp_var 5)) de_int))))) dss_nil)
    (dss_cons (ds_if (dt_cmp (s_eq hr.units) ob_eq (de_p (dp_ix rfl (dp_var 0) dp_int (fun _ _ => rfl))) de_str) (dss_cons (ds_for (passes_of rfl) rfl (di_e rfl (de_p (dp_ix rfl (dp_var 0) dp_int (fun _ _ => rfl)))) (dg_nm 3 sc_law_ends.nd) (dss_one (ds_set (de_fz (de_callF o_law_ends hr (by omega) (takes_of rfl rfl rfl rfl) rfl (dr_v (de_p (dp_var 3)) (dr_v (de_p (dp_var 1)) (dr_v (de_p (dp_var 2)) dr_nil))))) (dg_nm 2 sc_law_ends.nd))))
      (dss_one (ds_ret (de_p (dp_var 2))))) dss_nil)
    (dss_cons (ds_if (dt_cmp (s_eq hr.units) ob_eq (de_p (dp_ix rfl (dp_var 0) dp_int (fun _ _ => rfl))) de_str) (dss_cons (ds_set (de_fz (de_lst da_nil)) (dg_nm 4 sc_law_ends.nd))
      (dss_cons (ds_for (passes_of rfl) rfl (di_e rfl (de_p (dp_ix rfl (dp_var 0) dp_int (fun _ _ => rfl)))) (dg_nm 3 sc_law_ends.nd) (dss_one (ds_set (de_fz (de_bin s_add (de_p (dp_var 4)) (de_comp rfl sc_law_ends.nd (own := [("_law_at", 5)]) (di_e rfl (de_callF o_law_ends hr (by omega) (takes_of rfl rfl rfl rfl) rfl (dr_v (de_p (dp_var 3)) (dr_v (de_p (dp_var 1)) (dr_v (de_p (dp_var 2)) dr_nil))))) (blkOk_by (show blkC nm_law_ends (defScope st_law_ends) _ _ = true from by decide +kernel)) (fun _ _ _ _ _ => (dg_nm 5 sc_law_ends.nd)) (fun _ _ _ _ _ => (dts_one (dt_inP (b_notin (room65 hr)) ob_notin (de_p (dp_var 5)) (dp_var 4)))) (fun _ _ _ _ _ => (de_p (dp_var 5)))))) (dg_nm 4 sc_law_ends.nd))))
      (dss_one (ds_ret (de_callB (c_sorted (room70 hr)) rfl Z.b_sorted bt_sorted (de_p (dp_var 4))))))) dss_nil)
    (dss_one (ds_ret (de_callF o_law_starred hr (by omega) (takes_of rfl rfl rfl rfl) rfl (dr_v (de_p (dp_var 0)) (dr_v (de_p (dp_var 1)) (dr_v (de_p (dp_var 2)) dr_nil))))))))))
theorem at_law_starred (Z : Fc K mg) (n : Nat) (o_law_ends : OkF P w K mg base (gm P w K) (0 + n) "_law_ends" ["_law_tree_here", "_law_word_here", "_law_starts"] (sem_law_ends n) [false, false, false]) (o_law_starred : OkF P w K mg base (gm P w K) (0 + n) "_law_starred" ["_law_tree_here", "_law_word_here", "_law_starts"] (sem_law_starred n) [false, false, false]) {fa : Addr} {fd : FuncData} (F : FunD K "_law_starred" "_law_starred" (defArgs st_law_starred) (defBody st_law_starred) (defScope st_law_starred) [] [] fa fd) : FnOk P w K mg base (L2.CX P w) (0 + n + 1) fa fd ["_law_tree_here", "_law_word_here", "_law_starts"] (spOf (gm P w K) (sem_law_starred (n + 1)) [false, false, false]) := by
  show FnOk P w K mg base (L2.CX P w) (0 + n + 1) fa fd ["_law_tree_here", "_law_word_here", "_law_starts"] (spOf (gm P w K) (runDef 9 3 [] (body_law_starred (sem_law_ends n) (sem_law_starred n))) [false, false, false])
  refine fn_den F sc_law_starred [false, false, false] 9 3 [] fun cdv A outer s H E hr => ?_
  exact (dss_cons (ds_set (de_fz (de_lst da_nil)) (dg_nm 3 sc_law_starred.nd))
    (dss_cons (ds_if (dt_cmp (s_ne hr.units) ob_ne (de_p (dp_ix rfl (dp_var 0) dp_int (fun _ _ => rfl))) de_str) (dss_one (ds_set (de_fz (de_callT c_list rfl Z.b_list bt_list (de_p (dp_var 2)))) (dg_nm 3 sc_law_starred.nd))) dss_nil)
    (dss_cons (ds_set (de_fz (de_callT c_list rfl Z.b_list bt_list (de_p (dp_var 2)))) (dg_nm 4 sc_law_starred.nd))
    (dss_cons (ds_set (de_fz (de_lst da_nil)) (dg_nm 5 sc_law_starred.nd))
    (dss_cons (ds_for (passes_of rfl) rfl (di_range1 rfl Z.b_range (de_bin s_add (de_lenP rfl rfl Z.b_len (dp_var 1)) de_int)) (dg_nm 6 sc_law_starred.nd) (dss_one (ds_if (dt_w (dw_and (dt_cmp s_gt ob_gt (de_lenP rfl rfl Z.b_len (dp_var 4)) de_int) (dw_and1 (dt_w (dw_or (dt_cmp (s_eq hr.units) ob_eq (de_p (dp_var 6)) de_int) (dw_or1 (dt_cmp (s_ne hr.units) ob_ne (de_p (dp_ix rfl (dp_var 0) dp_int (fun _ _ => rfl))) de_str))))))) (dss_cons (ds_set (de_fz (de_callF o_law_ends hr (by omega) (takes_of rfl rfl rfl rfl) rfl (dr_v (de_p (dp_ix rfl (dp_var 0) dp_int (fun _ _ => rfl))) (dr_v (de_p (dp_var 1)) (dr_v (de_p (dp_var 4)) dr_nil))))) (dg_nm 7 sc_law_starred.nd))
        (dss_cons (ds_setLc rfl sc_law_starred.nd (own := [("_law_at", 8)]) (di_e rfl (de_p (dp_var 7))) (blkOk_by (show blkC nm_law_starred (defScope st_law_starred) _ _ = true from by decide +kernel)) (fun _ _ _ _ _ => (dg_nm 8 sc_law_starred.nd)) (fun _ _ _ _ _ => (dts_one (dt_inP (b_notin (room65 hr)) ob_notin (de_p (dp_var 8)) (dp_var 5)))) (fun _ _ _ _ _ => (de_p (dp_var 8))) (sw_true rfl rfl rfl (by decide +kernel)) (fun q => fz_imp q))
        (dss_one (ds_set (de_fz (de_bin s_add (de_p (dp_var 5)) (de_p (dp_var 4)))) (dg_nm 5 sc_law_starred.nd))))) dss_nil)))
    (dss_one (ds_ret (de_callB (c_sorted (room70 hr)) rfl Z.b_sorted bt_sorted (de_bin s_add (de_p (dp_var 3)) (de_comp rfl sc_law_starred.nd (own := [("_law_at", 8)]) (di_e rfl (de_p (dp_var 5))) (blkOk_by (show blkC nm_law_starred (defScope st_law_starred) _ _ = true from by decide +kernel)) (fun _ _ _ _ _ => (dg_nm 8 sc_law_starred.nd)) (fun _ _ _ _ _ => (dts_one (dt_inP (b_notin (room65 hr)) ob_notin (de_p (dp_var 8)) (dp_var 3)))) (fun _ _ _ _ _ => (de_p (dp_var 8)))))))))))))
theorem okn_law_ends (Z : Fc K mg) : ∀ n : Nat, (OkF P w K mg base (gm P w K) (0 + n) "_law_ends" ["_law_tree_here", "_law_word_here", "_law_starts"] (sem_law_ends n) [false, false, false]) ∧ (OkF P w K mg base (gm P w K) (0 + n) "_law_starred" ["_law_tree_here", "_law_word_here", "_law_starts"] (sem_law_starred n) [false, false, false])
  | 0 => ⟨(by
    obtain ⟨fa, fd, hm, F⟩ := Z.f_law_ends
    exact ⟨fa, fd, hm, F.kp, F.bindsN fun _ _ _ _ _ _ us hl => (match us, hl with | [_, _, _], _ => rfl), fnok_st⟩), (by
    obtain ⟨fa, fd, hm, F⟩ := Z.f_law_starred
    exact ⟨fa, fd, hm, F.kp, F.bindsN fun _ _ _ _ _ _ us hl => (match us, hl with | [_, _, _], _ => rfl), fnok_st⟩)⟩
  | n + 1 => by
    obtain ⟨q_law_ends, q_law_starred⟩ := okn_law_ends Z n
    exact ⟨(by
    obtain ⟨fa, fd, hm, F⟩ := Z.f_law_ends
    exact ⟨fa, fd, hm, F.kp, F.bindsN fun _ _ _ _ _ _ us hl => (match us, hl with | [_, _, _], _ => rfl), at_law_ends Z n q_law_ends q_law_starred F⟩), (by
    obtain ⟨fa, fd, hm, F⟩ := Z.f_law_starred
    exact ⟨fa, fd, hm, F.kp, F.bindsN fun _ _ _ _ _ _ us hl => (match us, hl with | [_, _, _], _ => rfl), at_law_starred Z n q_law_ends q_law_starred F⟩)⟩
theorem ok_law_ends (Z : Fc K mg) : OkF P w K mg base (gm P w K) 12 "_law_ends" ["_law_tree_here", "_law_word_here", "_law_starts"] (sem_law_ends 12) [false, false, false] := (okn_law_ends Z 12).1
theorem ok_law_starred (Z : Fc K mg) : OkF P w K mg base (gm P w K) 12 "_law_starred" ["_law_tree_here", "_law_word_here", "_law_starts"] (sem_law_starred 12) [false, false, false] := (okn_law_ends Z 12).2
theorem at_law_fits (Z : Fc K mg) (o_law_ends : OkF P w K mg base (gm P w K) 12 "_law_ends" ["_law_tree_here", "_law_word_here", "_law_starts"] (sem_law_ends 12) [false, false, false]) {fa : Addr} {fd : FuncData} (F : FunD K "_law_fits" "_law_fits" (defArgs st_law_fits) (defBody st_law_fits) (defScope st_law_fits) [] [] fa fd) : FnOk P w K mg base (L2.CX P w) 13 fa fd ["_law_tree_here", "_law_word_here"] (spOf (gm P w K) sem_law_fits [false, false]) := by
  refine fn_den F sc_law_fits [false, false] 2 2 [] fun cdv A outer s H E hr => ?_
  exact (dss_one (ds_ret (de_cmp (s_in (room65 hr)) (de_lenP rfl rfl Z.b_len (dp_var 1)) (de_callF o_law_ends hr (by decide) (takes_of rfl rfl rfl rfl) rfl (dr_v (de_p (dp_var 0)) (dr_v (de_p (dp_var 1)) (dr_v (de_lst (da_cons de_int da_nil)) dr_nil)))))))
theorem ok_law_fits (Z : Fc K mg) (o_law_ends : OkF P w K mg base (gm P w K) 12 "_law_ends" ["_law_tree_here", "_law_word_here", "_law_starts"] (sem_law_ends 12) [false, false, false]) : OkF P w K mg base (gm P w K) 13 "_law_fits" ["_law_tree_here", "_law_word_here"] sem_law_fits [false, false] := by
  obtain ⟨fa, fd, hm, F⟩ := Z.f_law_fits
  exact ⟨fa, fd, hm, F.kp, F.bindsN fun _ _ _ _ _ _ us hl => (match us, hl with | [_, _], _ => rfl), at_law_fits Z o_law_ends F⟩
theorem at_law_some_words (Z : Fc K mg) (o_law_words : OkF P w K mg base (gm P w K) 1 "_law_words" ["_law_alphabet_here", "_law_most"] sem_law_words [false, false]) (o_law_word : OkF P w K mg base (gm P w K) 2 "_law_word" ["_law_box", "_law_alphabet_here", "_law_most"] sem_law_word [true, false, false]) {fa : Addr} {fd : FuncData} (F : FunD K "_law_some_words" "_law_some_words" (defArgs st_law_some_words) (defBody st_law_some_words) (defScope st_law_some_words) [] [] fa fd) : FnOk P w K mg base (L2.CX P w) 3 fa fd ["_law_box", "_law_alphabet_here", "_law_most", "_law_many"] (spOf (gm P w K) sem_law_some_words [true, false, false, false]) := by
  refine fn_den F sc_law_some_words [true, false, false, false] 5 4 [0] fun cdv A outer s H E hr => ?_
  exact (dss_one (ds_ret (de_bin s_add (de_callF o_law_words hr (by decide) (takes_of rfl rfl rfl rfl) rfl (dr_v (de_p (dp_var 1)) (dr_v (de_p (dp_var 2)) dr_nil))) (de_comp rfl sc_law_some_words.nd (own := [("_law_k", 4)]) (di_range1 rfl Z.b_range (de_p (dp_var 3))) (blkOk_by (show blkC nm_law_some_words (defScope st_law_some_words) _ _ = true from by decide +kernel)) (fun _ _ _ _ _ => (dg_nm 4 sc_law_some_words.nd)) (fun _ _ _ _ _ => dts_nil) (fun _ _ _ _ _ => (de_callF o_law_word hr (by decide) takes0 rfl (dr_io 0 (dr_v (de_p (dp_var 1)) (dr_v de_int dr_nil)))))))))
theorem ok_law_some_words (Z : Fc K mg) (o_law_words : OkF P w K mg base (gm P w K) 1 "_law_words" ["_law_alphabet_here", "_law_most"] sem_law_words [false, false]) (o_law_word : OkF P w K mg base (gm P w K) 2 "_law_word" ["_law_box", "_law_alphabet_here", "_law_most"] sem_law_word [true, false, false]) : OkF P w K mg base (gm P w K) 3 "_law_some_words" ["_law_box", "_law_alphabet_here", "_law_most", "_law_many"] sem_law_some_words [true, false, false, false] := by
  obtain ⟨fa, fd, hm, F⟩ := Z.f_law_some_words
  exact ⟨fa, fd, hm, F.kp, F.bindsN fun _ _ _ _ _ _ us hl => (match us, hl with | [_, _, _, _], _ => rfl), at_law_some_words Z o_law_words o_law_word F⟩
theorem at_law (Z : Fc K mg) (o_law_row : OkF P w K mg base (gm P w K) 2 "_law_row" ["_law_script", "_law_first", "_law_last"] sem_law_row [false, false, false]) (o_law_draw : OkF P w K mg base (gm P w K) 1 "_law_draw" ["_law_box", "_law_many"] sem_law_draw [true, false]) (o_law_alphabet : OkF P w K mg base (gm P w K) 2 "_law_alphabet" ["_law_box", "_law_many"] sem_law_alphabet [true, false]) (o_law_pattern : OkF P w K mg base (gm P w K) 14 "_law_pattern" ["_law_box", "_law_alphabet_here"] sem_law_pattern [true, false]) (o_Pattern_init : OkM P w K mg base (gm P w K) 8 "Pattern" "Pattern" ["self", "alphabet", "text"] sem_Pattern_init [false, false]) (o_law_some_words : OkF P w K mg base (gm P w K) 3 "_law_some_words" ["_law_box", "_law_alphabet_here", "_law_most", "_law_many"] sem_law_some_words [true, false, false, false]) (o_matches : OkF P w K mg base (gm P w K) 3 "matches" ["pattern", "word"] sem_matches [false, false]) (o_law_fits : OkF P w K mg base (gm P w K) 13 "_law_fits" ["_law_tree_here", "_law_word_here"] sem_law_fits [false, false]) {fa : Addr} {fd : FuncData} (F : FunD K "law" "law" (defArgs st_law) (defBody st_law) (defScope st_law) [] [] fa fd) : FnOk P w K mg base (L2.CX P w) 15 fa fd ["_law_script"] (spOf (gm P w K) sem_law [false]) := by
  refine fn_den F sc_law [false] 8 1 [] fun cdv A outer s H E hr => ?_
  have hC := Z.hC
  exact (dss_cons (ds_set (de_lst (da_cons (de_callF o_law_row hr (by decide) (takes_of rfl rfl rfl rfl) rfl (dr_v (de_p (dp_var 0)) (dr_v de_int (dr_v de_int dr_nil)))) (da_cons de_int da_nil))) (dg_nm 1 sc_law.nd))
    (dss_cons (ds_for (passes_of rfl) rfl (di_range1 rfl Z.b_range de_int) (dg_nm 2 sc_law.nd) (dss_cons (ds_set (de_fz (de_callF o_law_alphabet hr (by decide) (takes_of rfl rfl rfl rfl) rfl (dr_io 1 (dr_v (de_bin s_add de_int (de_callF o_law_draw hr (by decide) (takes_of rfl rfl rfl rfl) rfl (dr_io 1 (dr_v de_int dr_nil)))) dr_nil)))) (dg_nm 3 sc_law.nd))
      (dss_cons (ds_set (de_fz (de_callF o_law_pattern hr (by decide) (takes_of rfl rfl rfl rfl) rfl (dr_io 1 (dr_v (de_p (dp_var 3)) dr_nil)))) (dg_nm 4 sc_law.nd))
      (dss_cons (ds_set (de_fz (de_make o_Pattern_init hr (by decide) (takes_of rfl rfl rfl rfl) rfl (dr_v (de_p (dp_var 3)) (dr_v (de_p (dp_ix rfl (dp_var 4) dp_int (fun _ _ => rfl))) dr_nil)))) (dg_nm 5 sc_law.nd))
      (dss_cons (ds_if (dt_w (dw_or (dt_cmp (s_ne hr.units) ob_ne (de_p (dp_fld (f := "alphabet") rfl hC (dp_var 5))) (de_p (dp_var 3))) (dw_or1 (dt_cmp (s_ne hr.units) ob_ne (de_p (dp_fld (f := "text") rfl hC (dp_var 5))) (de_p (dp_ix rfl (dp_var 4) dp_int (fun _ _ => rfl))))))) (dss_one (ds_ret de_bl)) dss_nil)
      (dss_one (ds_for (passes_of rfl) rfl (di_e rfl (de_callF o_law_some_words hr (by decide) (takes_of rfl rfl rfl rfl) rfl (dr_io 1 (dr_v (de_p (dp_var 3)) (dr_v de_int (dr_v de_int dr_nil)))))) (dg_nm 6 sc_law.nd) (dss_cons (ds_set (de_fz (de_callF o_matches hr (by decide) (takes_of rfl rfl rfl rfl) rfl (dr_v (de_p (dp_var 5)) (dr_v (de_p (dp_var 6)) dr_nil)))) (dg_nm 7 sc_law.nd))
        (dss_one (ds_if (dt_w (dw_or (dt_not (dt_e rfl (de_isInst (T := "bool") ii_bool rfl Z.b_isinstance bt_isinstance rfl Z.b_bool bt_bool (de_p (dp_var 7))))) (dw_or1 (dt_cmp (s_ne hr.units) ob_ne (de_p (dp_var 7)) (de_callF o_law_fits hr (by decide) (takes_of rfl rfl rfl rfl) rfl (dr_v (de_p (dp_ix rfl (dp_var 4) dp_int (fun _ _ => rfl))) (dr_v (de_p (dp_var 6)) dr_nil))))))) (dss_one (ds_ret de_bl)) dss_nil))))))))))
    (dss_one (ds_ret de_bl))))
theorem law_all (Z : Fc K mg) {fa : Addr} {fd : FuncData} (F : FunD K "law" "law" (defArgs st_law) (defBody st_law) (defScope st_law) [] [] fa fd) : FnOk P w K mg base (L2.CX P w) 15 fa fd ["_law_script"] (spOf (gm P w K) sem_law [false]) := by
  have o_onward : OkF P w K mg base (gm P w K) 1 "onward" ["network", "places", "k"] sem_onward [false, false, false] := ok_onward Z
  have o_accepts : OkF P w K mg base (gm P w K) 1 "accepts" ["network", "places"] sem_accepts [false, false] := ok_accepts Z
  have o_describes : OkF P w K mg base (gm P w K) 2 "describes" ["network", "indexes"] sem_describes [false, false] := ok_describes Z o_onward o_accepts
  have o_Network_init : OkM P w K mg base (gm P w K) 1 "Network" "Network" ["self", "marks", "follow", "ends"] sem_Network_init [false, false, false] := ok_Network_init Z
  have o_Part_init : OkM P w K mg base (gm P w K) 1 "Part" "Part" ["self", "nullable", "first", "last"] sem_Part_init [false, false, false] := ok_Part_init Z
  have o_merged : OkF P w K mg base (gm P w K) 1 "_merged" ["one", "two"] sem_merged [false, false] := ok_merged Z
  have o_Scanner_init : OkM P w K mg base (gm P w K) 1 "Scanner" "Scanner" ["self", "alphabet"] sem_Scanner_init [false] := ok_Scanner_init Z
  have o_Scanner_is_closed : OkMt P w K mg base (gm P w K) 1 "Scanner" "is_closed" ["self"] sem_Scanner_is_closed [true] := ok_Scanner_is_closed Z
  have o_Scanner__join : OkMt P w K mg base (gm P w K) 2 "Scanner" "_join" ["self", "last", "first"] sem_Scanner__join [true, false, false] := ok_Scanner__join Z o_merged
  have o_Scanner__take_star : OkMt P w K mg base (gm P w K) 3 "Scanner" "_take_star" ["self", "sign"] sem_Scanner__take_star [true, false] := ok_Scanner__take_star Z o_Scanner__join o_Part_init
  have o_Scanner__add : OkMt P w K mg base (gm P w K) 1 "Scanner" "_add" ["self", "part"] sem_Scanner__add [true, false] := ok_Scanner__add Z
  have o_Scanner__row : OkMt P w K mg base (gm P w K) 3 "Scanner" "_row" ["self", "parts"] sem_Scanner__row [true, false] := ok_Scanner__row Z o_Part_init o_Scanner__join o_merged
  have o_Scanner__choice : OkMt P w K mg base (gm P w K) 4 "Scanner" "_choice" ["self", "frame"] sem_Scanner__choice [true, false] := ok_Scanner__choice Z o_Scanner__row o_merged o_Part_init
  have o_Scanner__close : OkMt P w K mg base (gm P w K) 5 "Scanner" "_close" ["self"] sem_Scanner__close [true] := ok_Scanner__close Z o_Scanner_is_closed o_Scanner__choice o_Scanner__add
  have o_Scanner__add_place : OkMt P w K mg base (gm P w K) 3 "Scanner" "_add_place" ["self", "mark"] sem_Scanner__add_place [true, false] := ok_Scanner__add_place Z o_Part_init o_Scanner__add
  have o_Scanner_take : OkMt P w K mg base (gm P w K) 6 "Scanner" "take" ["self", "sign"] sem_Scanner_take [true, false] := ok_Scanner_take Z o_Scanner__take_star o_Scanner__close o_Scanner__add_place
  have o_Scanner_network : OkMt P w K mg base (gm P w K) 5 "Scanner" "network" ["self"] sem_Scanner_network [true] := ok_Scanner_network Z o_Scanner__choice o_Network_init
  have o_scanned : OkF P w K mg base (gm P w K) 7 "scanned" ["alphabet", "text", "start", "stops"] sem_scanned [false, false, false, false] := ok_scanned Z o_Scanner_init o_Scanner_is_closed o_Scanner_take
  have o_codes : OkF P w K mg base (gm P w K) 1 "codes" ["alphabet", "word"] sem_codes [false, false] := ok_codes Z
  have o_Pattern_init : OkM P w K mg base (gm P w K) 8 "Pattern" "Pattern" ["self", "alphabet", "text"] sem_Pattern_init [false, false] := ok_Pattern_init Z o_scanned o_Scanner_network
  have o_matches : OkF P w K mg base (gm P w K) 3 "matches" ["pattern", "word"] sem_matches [false, false] := ok_matches Z o_codes o_describes
  have o_law_cell : OkF P w K mg base (gm P w K) 1 "_law_cell" ["_law_script", "_law_k"] sem_law_cell [false, false] := ok_law_cell Z
  have o_law_row : OkF P w K mg base (gm P w K) 2 "_law_row" ["_law_script", "_law_first", "_law_last"] sem_law_row [false, false, false] := ok_law_row Z o_law_cell
  have o_law_draw : OkF P w K mg base (gm P w K) 1 "_law_draw" ["_law_box", "_law_many"] sem_law_draw [true, false] := ok_law_draw Z
  have o_law_alphabet : OkF P w K mg base (gm P w K) 2 "_law_alphabet" ["_law_box", "_law_many"] sem_law_alphabet [true, false] := ok_law_alphabet Z o_law_draw
  have o_law_words : OkF P w K mg base (gm P w K) 1 "_law_words" ["_law_alphabet_here", "_law_most"] sem_law_words [false, false] := ok_law_words Z
  have o_law_word : OkF P w K mg base (gm P w K) 2 "_law_word" ["_law_box", "_law_alphabet_here", "_law_most"] sem_law_word [true, false, false] := ok_law_word Z o_law_draw
  have o_law_tree : OkF P w K mg base (gm P w K) 13 "_law_tree" ["_law_box", "_law_alphabet_here", "_law_depth"] (sem_law_tree 12) [true, false, false] := ok_law_tree Z o_law_draw
  have o_law_text_of : OkF P w K mg base (gm P w K) 12 "_law_text_of" ["_law_tree_here", "_law_level"] (sem_law_text_of 12) [false, false] := ok_law_text_of Z
  have o_law_pattern : OkF P w K mg base (gm P w K) 14 "_law_pattern" ["_law_box", "_law_alphabet_here"] sem_law_pattern [true, false] := ok_law_pattern Z o_law_tree o_law_text_of
  have o_law_ends : OkF P w K mg base (gm P w K) 12 "_law_ends" ["_law_tree_here", "_law_word_here", "_law_starts"] (sem_law_ends 12) [false, false, false] := ok_law_ends Z
  have o_law_starred : OkF P w K mg base (gm P w K) 12 "_law_starred" ["_law_tree_here", "_law_word_here", "_law_starts"] (sem_law_starred 12) [false, false, false] := ok_law_starred Z
  have o_law_fits : OkF P w K mg base (gm P w K) 13 "_law_fits" ["_law_tree_here", "_law_word_here"] sem_law_fits [false, false] := ok_law_fits Z o_law_ends
  have o_law_some_words : OkF P w K mg base (gm P w K) 3 "_law_some_words" ["_law_box", "_law_alphabet_here", "_law_most", "_law_many"] sem_law_some_words [true, false, false, false] := ok_law_some_words Z o_law_words o_law_word
  exact at_law Z o_law_row o_law_draw o_law_alphabet o_law_pattern o_Pattern_init o_law_some_words o_matches o_law_fits F
end
def d_onward : He.DefD := ⟨("onward", none), "onward", "onward", defArgs st_onward, defBody st_onward, defScope st_onward, [], []⟩
def d_accepts : He.DefD := ⟨("accepts", none), "accepts", "accepts", defArgs st_accepts, defBody st_accepts, defScope st_accepts, [], []⟩
def d_describes : He.DefD := ⟨("describes", none), "describes", "describes", defArgs st_describes, defBody st_describes, defScope st_describes, [], []⟩
def d_Network_init : He.DefD := ⟨("Network", some "__init__"), "__init__", "Network.__init__", defArgs st_Network_init, defBody st_Network_init, defScope st_Network_init, [], []⟩
def d_Part_init : He.DefD := ⟨("Part", some "__init__"), "__init__", "Part.__init__", defArgs st_Part_init, defBody st_Part_init, defScope st_Part_init, [], []⟩
def d_merged : He.DefD := ⟨("_merged", none), "_merged", "_merged", defArgs st_merged, defBody st_merged, defScope st_merged, [], []⟩
def d_Scanner_init : He.DefD := ⟨("Scanner", some "__init__"), "__init__", "Scanner.__init__", defArgs st_Scanner_init, defBody st_Scanner_init, defScope st_Scanner_init, [], []⟩
def d_Scanner_is_closed : He.DefD := ⟨("Scanner", some "is_closed"), "is_closed", "Scanner.is_closed", defArgs st_Scanner_is_closed, defBody st_Scanner_is_closed, defScope st_Scanner_is_closed, [], []⟩
def d_Scanner__join : He.DefD := ⟨("Scanner", some "_join"), "_join", "Scanner._join", defArgs st_Scanner__join, defBody st_Scanner__join, defScope st_Scanner__join, [], []⟩
def d_Scanner__take_star : He.DefD := ⟨("Scanner", some "_take_star"), "_take_star", "Scanner._take_star", defArgs st_Scanner__take_star, defBody st_Scanner__take_star, defScope st_Scanner__take_star, [], []⟩
def d_Scanner__add : He.DefD := ⟨("Scanner", some "_add"), "_add", "Scanner._add", defArgs st_Scanner__add, defBody st_Scanner__add, defScope st_Scanner__add, [], []⟩
def d_Scanner__row : He.DefD := ⟨("Scanner", some "_row"), "_row", "Scanner._row", defArgs st_Scanner__row, defBody st_Scanner__row, defScope st_Scanner__row, [], []⟩
def d_Scanner__choice : He.DefD := ⟨("Scanner", some "_choice"), "_choice", "Scanner._choice", defArgs st_Scanner__choice, defBody st_Scanner__choice, defScope st_Scanner__choice, [], []⟩
def d_Scanner__close : He.DefD := ⟨("Scanner", some "_close"), "_close", "Scanner._close", defArgs st_Scanner__close, defBody st_Scanner__close, defScope st_Scanner__close, [], []⟩
def d_Scanner__add_place : He.DefD := ⟨("Scanner", some "_add_place"), "_add_place", "Scanner._add_place", defArgs st_Scanner__add_place, defBody st_Scanner__add_place, defScope st_Scanner__add_place, [], []⟩
def d_Scanner_take : He.DefD := ⟨("Scanner", some "take"), "take", "Scanner.take", defArgs st_Scanner_take, defBody st_Scanner_take, defScope st_Scanner_take, [], []⟩
def d_Scanner_network : He.DefD := ⟨("Scanner", some "network"), "network", "Scanner.network", defArgs st_Scanner_network, defBody st_Scanner_network, defScope st_Scanner_network, [], []⟩
def d_scanned : He.DefD := ⟨("scanned", none), "scanned", "scanned", defArgs st_scanned, defBody st_scanned, defScope st_scanned, [], []⟩
def d_codes : He.DefD := ⟨("codes", none), "codes", "codes", defArgs st_codes, defBody st_codes, defScope st_codes, [], []⟩
def d_Pattern_init : He.DefD := ⟨("Pattern", some "__init__"), "__init__", "Pattern.__init__", defArgs st_Pattern_init, defBody st_Pattern_init, defScope st_Pattern_init, [], []⟩
def d_matches : He.DefD := ⟨("matches", none), "matches", "matches", defArgs st_matches, defBody st_matches, defScope st_matches, [], []⟩
def d_law_cell : He.DefD := ⟨("_law_cell", none), "_law_cell", "_law_cell", defArgs st_law_cell, defBody st_law_cell, defScope st_law_cell, [], []⟩
def d_law_row : He.DefD := ⟨("_law_row", none), "_law_row", "_law_row", defArgs st_law_row, defBody st_law_row, defScope st_law_row, [], []⟩
def d_law_draw : He.DefD := ⟨("_law_draw", none), "_law_draw", "_law_draw", defArgs st_law_draw, defBody st_law_draw, defScope st_law_draw, [], []⟩
def d_law_alphabet : He.DefD := ⟨("_law_alphabet", none), "_law_alphabet", "_law_alphabet", defArgs st_law_alphabet, defBody st_law_alphabet, defScope st_law_alphabet, [], []⟩
def d_law_words : He.DefD := ⟨("_law_words", none), "_law_words", "_law_words", defArgs st_law_words, defBody st_law_words, defScope st_law_words, [], []⟩
def d_law_word : He.DefD := ⟨("_law_word", none), "_law_word", "_law_word", defArgs st_law_word, defBody st_law_word, defScope st_law_word, [], []⟩
def d_law_tree : He.DefD := ⟨("_law_tree", none), "_law_tree", "_law_tree", defArgs st_law_tree, defBody st_law_tree, defScope st_law_tree, [], []⟩
def d_law_text_of : He.DefD := ⟨("_law_text_of", none), "_law_text_of", "_law_text_of", defArgs st_law_text_of, defBody st_law_text_of, defScope st_law_text_of, [], []⟩
def d_law_pattern : He.DefD := ⟨("_law_pattern", none), "_law_pattern", "_law_pattern", defArgs st_law_pattern, defBody st_law_pattern, defScope st_law_pattern, [], []⟩
def d_law_ends : He.DefD := ⟨("_law_ends", none), "_law_ends", "_law_ends", defArgs st_law_ends, defBody st_law_ends, defScope st_law_ends, [], []⟩
def d_law_starred : He.DefD := ⟨("_law_starred", none), "_law_starred", "_law_starred", defArgs st_law_starred, defBody st_law_starred, defScope st_law_starred, [], []⟩
def d_law_fits : He.DefD := ⟨("_law_fits", none), "_law_fits", "_law_fits", defArgs st_law_fits, defBody st_law_fits, defScope st_law_fits, [], []⟩
def d_law_some_words : He.DefD := ⟨("_law_some_words", none), "_law_some_words", "_law_some_words", defArgs st_law_some_words, defBody st_law_some_words, defScope st_law_some_words, [], []⟩
def d_law : He.DefD := ⟨("law", none), "law", "law", defArgs st_law, defBody st_law, defScope st_law, [], []⟩
def hfn : List He.DefD := [d_onward, d_accepts, d_describes, d_Network_init, d_Part_init, d_merged, d_Scanner_init, d_Scanner_is_closed, d_Scanner__join, d_Scanner__take_star, d_Scanner__add, d_Scanner__row, d_Scanner__choice, d_Scanner__close, d_Scanner__add_place, d_Scanner_take, d_Scanner_network, d_scanned, d_codes, d_Pattern_init, d_matches, d_law_cell, d_law_row, d_law_draw, d_law_alphabet, d_law_words, d_law_word, d_law_tree, d_law_text_of, d_law_pattern, d_law_ends, d_law_starred, d_law_fits, d_law_some_words, d_law]
def hfa : List He.Fa := [.glo "onward", .glo "accepts", .glo "describes", .glo "_merged", .glo "scanned", .glo "codes", .glo "matches", .glo "_law_cell", .glo "_law_row", .glo "_law_draw", .glo "_law_alphabet", .glo "_law_words", .glo "_law_word", .glo "_law_tree", .glo "_law_text_of", .glo "_law_pattern", .glo "_law_ends", .glo "_law_starred", .glo "_law_fits", .glo "_law_some_words", .glo "law", .free "abs", .free "any", .free "bool", .free "int", .free "isinstance", .free "len", .free "list", .free "range", .free "sorted", .free "tuple", .int "MOST_SIGNS" 12, .str "STARS" "*+?", .meth "Scanner" "is_closed", .meth "Scanner" "_join", .meth "Scanner" "_take_star", .meth "Scanner" "_add", .meth "Scanner" "_row", .meth "Scanner" "_choice", .meth "Scanner" "_close", .meth "Scanner" "_add_place", .meth "Scanner" "take", .meth "Scanner" "network", .glo "Network", .cls "Network", .mkr "Network", .noat "Network" "marks", .noat "Network" "follow", .noat "Network" "ends", .glo "Part", .cls "Part", .mkr "Part", .noat "Part" "nullable", .noat "Part" "first", .noat "Part" "last", .glo "Scanner", .cls "Scanner", .mkr "Scanner", .noat "Scanner" "alphabet", .noat "Scanner" "marks", .noat "Scanner" "follow", .noat "Scanner" "frames", .noat "Scanner" "signs", .noat "Scanner" "starred", .glo "Pattern", .cls "Pattern", .mkr "Pattern", .noat "Pattern" "alphabet", .noat "Pattern" "text", .noat "Pattern" "network"]
theorem fc_of {K : PySem.W.Frag} {h : Heap} {mg : Str → Option Value} (X : K.In h) (G : h.Ns mainGlobals mg) (c : He.SaysD hfa hfn K) : Fc K mg where
  b_abs := He.free_ok X G (c.fact 21 (f := .free "abs") rfl)
  b_any := He.free_ok X G (c.fact 22 (f := .free "any") rfl)
  b_bool := He.free_ok X G (c.fact 23 (f := .free "bool") rfl)
  b_int := He.free_ok X G (c.fact 24 (f := .free "int") rfl)
  b_isinstance := He.free_ok X G (c.fact 25 (f := .free "isinstance") rfl)
  b_len := He.free_ok X G (c.fact 26 (f := .free "len") rfl)
  b_list := He.free_ok X G (c.fact 27 (f := .free "list") rfl)
  b_range := He.free_ok X G (c.fact 28 (f := .free "range") rfl)
  b_sorted := He.free_ok X G (c.fact 29 (f := .free "sorted") rfl)
  b_tuple := He.free_ok X G (c.fact 30 (f := .free "tuple") rfl)
  k_MOST_SIGNS := He.int_ok X G (c.fact 31 (f := .int "MOST_SIGNS" 12) rfl)
  k_STARS := He.str_ok X G (c.fact 32 (f := .str "STARS" "*+?") rfl)
  c_Network := He.glo_ok X G (c.fact 43 (f := .glo "Network") rfl)
  c_Part := He.glo_ok X G (c.fact 49 (f := .glo "Part") rfl)
  c_Scanner := He.glo_ok X G (c.fact 55 (f := .glo "Scanner") rfl)
  c_Pattern := He.glo_ok X G (c.fact 64 (f := .glo "Pattern") rfl)
  f_onward := (c.def_ 0 (d := d_onward) rfl).elim fun fd F => ⟨_, fd, He.glo_ok X G (c.fact 0 (f := .glo "onward") rfl), F⟩
  f_accepts := (c.def_ 1 (d := d_accepts) rfl).elim fun fd F => ⟨_, fd, He.glo_ok X G (c.fact 1 (f := .glo "accepts") rfl), F⟩
  f_describes := (c.def_ 2 (d := d_describes) rfl).elim fun fd F => ⟨_, fd, He.glo_ok X G (c.fact 2 (f := .glo "describes") rfl), F⟩
  mk_Network := He.mkr_ok (c.fact 45 (f := .mkr "Network") rfl)
  f_Network_init := c.def_ 3 (d := d_Network_init) rfl
  mk_Part := He.mkr_ok (c.fact 51 (f := .mkr "Part") rfl)
  f_Part_init := c.def_ 4 (d := d_Part_init) rfl
  f_merged := (c.def_ 5 (d := d_merged) rfl).elim fun fd F => ⟨_, fd, He.glo_ok X G (c.fact 3 (f := .glo "_merged") rfl), F⟩
  mk_Scanner := He.mkr_ok (c.fact 57 (f := .mkr "Scanner") rfl)
  f_Scanner_init := c.def_ 6 (d := d_Scanner_init) rfl
  mt_Scanner_is_closed := He.meth_ok (c.fact 33 (f := .meth "Scanner" "is_closed") rfl)
  f_Scanner_is_closed := c.def_ 7 (d := d_Scanner_is_closed) rfl
  mt_Scanner__join := He.meth_ok (c.fact 34 (f := .meth "Scanner" "_join") rfl)
  f_Scanner__join := c.def_ 8 (d := d_Scanner__join) rfl
  mt_Scanner__take_star := He.meth_ok (c.fact 35 (f := .meth "Scanner" "_take_star") rfl)
  f_Scanner__take_star := c.def_ 9 (d := d_Scanner__take_star) rfl
  mt_Scanner__add := He.meth_ok (c.fact 36 (f := .meth "Scanner" "_add") rfl)
  f_Scanner__add := c.def_ 10 (d := d_Scanner__add) rfl
  mt_Scanner__row := He.meth_ok (c.fact 37 (f := .meth "Scanner" "_row") rfl)
  f_Scanner__row := c.def_ 11 (d := d_Scanner__row) rfl
  mt_Scanner__choice := He.meth_ok (c.fact 38 (f := .meth "Scanner" "_choice") rfl)
  f_Scanner__choice := c.def_ 12 (d := d_Scanner__choice) rfl
  mt_Scanner__close := He.meth_ok (c.fact 39 (f := .meth "Scanner" "_close") rfl)
  f_Scanner__close := c.def_ 13 (d := d_Scanner__close) rfl
  mt_Scanner__add_place := He.meth_ok (c.fact 40 (f := .meth "Scanner" "_add_place") rfl)
  f_Scanner__add_place := c.def_ 14 (d := d_Scanner__add_place) rfl
  mt_Scanner_take := He.meth_ok (c.fact 41 (f := .meth "Scanner" "take") rfl)
  f_Scanner_take := c.def_ 15 (d := d_Scanner_take) rfl
  mt_Scanner_network := He.meth_ok (c.fact 42 (f := .meth "Scanner" "network") rfl)
  f_Scanner_network := c.def_ 16 (d := d_Scanner_network) rfl
  f_scanned := (c.def_ 17 (d := d_scanned) rfl).elim fun fd F => ⟨_, fd, He.glo_ok X G (c.fact 4 (f := .glo "scanned") rfl), F⟩
  f_codes := (c.def_ 18 (d := d_codes) rfl).elim fun fd F => ⟨_, fd, He.glo_ok X G (c.fact 5 (f := .glo "codes") rfl), F⟩
  mk_Pattern := He.mkr_ok (c.fact 66 (f := .mkr "Pattern") rfl)
  f_Pattern_init := c.def_ 19 (d := d_Pattern_init) rfl
  f_matches := (c.def_ 20 (d := d_matches) rfl).elim fun fd F => ⟨_, fd, He.glo_ok X G (c.fact 6 (f := .glo "matches") rfl), F⟩
  f_law_cell := (c.def_ 21 (d := d_law_cell) rfl).elim fun fd F => ⟨_, fd, He.glo_ok X G (c.fact 7 (f := .glo "_law_cell") rfl), F⟩
  f_law_row := (c.def_ 22 (d := d_law_row) rfl).elim fun fd F => ⟨_, fd, He.glo_ok X G (c.fact 8 (f := .glo "_law_row") rfl), F⟩
  f_law_draw := (c.def_ 23 (d := d_law_draw) rfl).elim fun fd F => ⟨_, fd, He.glo_ok X G (c.fact 9 (f := .glo "_law_draw") rfl), F⟩
  f_law_alphabet := (c.def_ 24 (d := d_law_alphabet) rfl).elim fun fd F => ⟨_, fd, He.glo_ok X G (c.fact 10 (f := .glo "_law_alphabet") rfl), F⟩
  f_law_words := (c.def_ 25 (d := d_law_words) rfl).elim fun fd F => ⟨_, fd, He.glo_ok X G (c.fact 11 (f := .glo "_law_words") rfl), F⟩
  f_law_word := (c.def_ 26 (d := d_law_word) rfl).elim fun fd F => ⟨_, fd, He.glo_ok X G (c.fact 12 (f := .glo "_law_word") rfl), F⟩
  f_law_tree := (c.def_ 27 (d := d_law_tree) rfl).elim fun fd F => ⟨_, fd, He.glo_ok X G (c.fact 13 (f := .glo "_law_tree") rfl), F⟩
  f_law_text_of := (c.def_ 28 (d := d_law_text_of) rfl).elim fun fd F => ⟨_, fd, He.glo_ok X G (c.fact 14 (f := .glo "_law_text_of") rfl), F⟩
  f_law_pattern := (c.def_ 29 (d := d_law_pattern) rfl).elim fun fd F => ⟨_, fd, He.glo_ok X G (c.fact 15 (f := .glo "_law_pattern") rfl), F⟩
  f_law_ends := (c.def_ 30 (d := d_law_ends) rfl).elim fun fd F => ⟨_, fd, He.glo_ok X G (c.fact 16 (f := .glo "_law_ends") rfl), F⟩
  f_law_starred := (c.def_ 31 (d := d_law_starred) rfl).elim fun fd F => ⟨_, fd, He.glo_ok X G (c.fact 17 (f := .glo "_law_starred") rfl), F⟩
  f_law_fits := (c.def_ 32 (d := d_law_fits) rfl).elim fun fd F => ⟨_, fd, He.glo_ok X G (c.fact 18 (f := .glo "_law_fits") rfl), F⟩
  f_law_some_words := (c.def_ 33 (d := d_law_some_words) rfl).elim fun fd F => ⟨_, fd, He.glo_ok X G (c.fact 19 (f := .glo "_law_some_words") rfl), F⟩
  f_law := (c.def_ 34 (d := d_law) rfl).elim fun fd F => ⟨_, fd, He.glo_ok X G (c.fact 20 (f := .glo "law") rfl), F⟩
  hC := clsOk_of (fm_cons ⟨He.cls_ok (c.fact 44 (f := .cls "Network") rfl), fm_cons (He.noat_ok (c.fact 46 (f := .noat "Network" "marks") rfl)) (fm_cons (He.noat_ok (c.fact 47 (f := .noat "Network" "follow") rfl)) (fm_cons (He.noat_ok (c.fact 48 (f := .noat "Network" "ends") rfl)) (fun z hz => (by cases hz))))⟩ (fm_cons ⟨He.cls_ok (c.fact 50 (f := .cls "Part") rfl), fm_cons (He.noat_ok (c.fact 52 (f := .noat "Part" "nullable") rfl)) (fm_cons (He.noat_ok (c.fact 53 (f := .noat "Part" "first") rfl)) (fm_cons (He.noat_ok (c.fact 54 (f := .noat "Part" "last") rfl)) (fun z hz => (by cases hz))))⟩ (fm_cons ⟨He.cls_ok (c.fact 56 (f := .cls "Scanner") rfl), fm_cons (He.noat_ok (c.fact 58 (f := .noat "Scanner" "alphabet") rfl)) (fm_cons (He.noat_ok (c.fact 59 (f := .noat "Scanner" "marks") rfl)) (fm_cons (He.noat_ok (c.fact 60 (f := .noat "Scanner" "follow") rfl)) (fm_cons (He.noat_ok (c.fact 61 (f := .noat "Scanner" "frames") rfl)) (fm_cons (He.noat_ok (c.fact 62 (f := .noat "Scanner" "signs") rfl)) (fm_cons (He.noat_ok (c.fact 63 (f := .noat "Scanner" "starred") rfl)) (fun z hz => (by cases hz)))))))⟩ (fm_cons ⟨He.cls_ok (c.fact 65 (f := .cls "Pattern") rfl), fm_cons (He.noat_ok (c.fact 67 (f := .noat "Pattern" "alphabet") rfl)) (fm_cons (He.noat_ok (c.fact 68 (f := .noat "Pattern" "text") rfl)) (fm_cons (He.noat_ok (c.fact 69 (f := .noat "Pattern" "network") rfl)) (fun z hz => (by cases hz))))⟩ (fun z hz => (by cases hz))))))
abbrev hR : PySem.W.OpenRow := PySem.W.OpenLaw.row PySem.Challenge.rw_foreaft_k40_what_patterns_describe
abbrev hk : PySem.W.Hook := He.hookD 5 hfa hfn
def hob (s : PySem.W.SharedT) : He.AlD := He.obsDG 5 hfa hfn (HandSHeadRun.getT s)
theorem hob_eq (s : PySem.W.SharedT) : hob s = hk.obs s.abs := He.obsDG_eq (HandSHeadRun.getT_eq s)
def hnames : List PySem.Str := (["__name__", "onward", "accepts", "describes", "ForeaftError", "PatternError", "MOST_SIGNS", "STARS", "Network", "Part", "_merged", "Scanner", "scanned", "codes", "Pattern", "matches", "_law_cell", "_law_row", "_law_draw", "_law_alphabet", "_law_words", "_law_word", "_law_tree", "_law_text_of", "_law_pattern"] : List PySem.Str) ++ (["_law_ends", "_law_starred", "_law_fits", "_law_some_words"] : List PySem.Str)
theorem hrun (w : World) : HandSHeadRun.RunEq hR (PySem.W.view hR.prog [34]) hk hob 4000 hnames w := by
  intro os
  kernel_rfl
end FA
open PySem PySem.W PySem.Calls PyProof.Rows
theorem PySem.Challenge.cw_foreaft_k40_what_patterns_describe_holds : PySem.Challenge.rw_foreaft_k40_what_patterns_describe.Holds := by
  w_on; o_law
  refine HandSHeadRun.head_any (r := OpenLaw.row PySem.Challenge.rw_foreaft_k40_what_patterns_describe) (q := view (OpenLaw.row PySem.Challenge.rw_foreaft_k40_what_patterns_describe).prog [34]) (H := FA.hk) (ob := FA.hob) (M := 4000) (loose := FA.hnames) (d := HandSHeadRun.topDef (OpenLaw.row PySem.Challenge.rw_foreaft_k40_what_patterns_describe).prog 34) (kwd := []) FA.hob_eq
    (by kernel_rfl) (fun s => by kernel_rfl) FA.hrun (by kernel_rfl) (by kernel_rfl) (by kernel_rfl) (by rfl) (by first | assumption | decide +kernel) (by decide +kernel) ⟨rfl, rfl, rfl, rfl, rfl, by decide +kernel⟩ ?hw ?hc
  case hw => w_witness2
  case hc =>
    refine FA.walk_ofW (l := PySem.Challenge.rw_foreaft_k40_what_patterns_describe) (n := 63) (k := 15) (x := "_law_script") (CX := fun w => L2.CX (PySem.Challenge.rw_foreaft_k40_what_patterns_describe).prog w) rfl (by decide) (by kernel_rfl) ⟨rfl, by decide, by decide⟩ ?F (fun _ _ _ _ _ z => FA.cx_none z)
    intro w mg fa h Y G hmg0
    obtain ⟨K, KX, c⟩ := Y
    have hmg : mg ("law" : PySem.Str) = some (.ref fa) := by
      have e : (HandSHeadRun.topDef (OpenLaw.row PySem.Challenge.rw_foreaft_k40_what_patterns_describe).prog 34).name = ("law" : PySem.Str) := by kernel_rfl
      rw [← e]
      exact hmg0
    have Z := FA.fc_of KX G c
    obtain ⟨fa', fd, hm, F⟩ := Z.f_law
    rw [hmg] at hm
    cases hm
    have b := L2.FunD.bindsA (ps := ["_law_script"]) F fun _ _ _ _ _ _ us hl => (match us, hl with | [_], _ => rfl)
    exact ⟨K, fd, _, KX, fun s v => b s [v] rfl, fun H a ns hl _ hS => FA.law_sp FA.law_true H a ns hl hS, fun base _ _ => FA.law_all Z F⟩
