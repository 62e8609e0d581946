import PyProof.Rows.All
import Wide.All
import OpenK.AllK
import Wide.FinOn
import HandS.ForMost
import HandS.TupAny
import HandS.TupMul
import HandS.Deep
import HandS.IsInst
import HandS.Conv
import PyProof.ReprReads
import PyProof.ListStr
import HandS.Small
import PyProof.CallFns
import PyProof.ReprRoads
import PyProof.StrOps2
import HandS.SetBool
import HandS.SetKeys
import PyProof.AutoSeq1
import KE.GoesMore
import HandS.TupSets
import HandS.Style
import HandS.NoneIn
import HandS.Zip
import KE.GoesEnumKw
import PyProof.Rows.StrInSeq3
import HandS.FStr
import HandS.Codes
import HandS.Defaults
import PyProof.ReprLen
import PyProof.FitsInt
import PyProof.P3Eq
import PySem.Challenge.RW_leastwish_k05_machines_written
set_option Elab.async false
set_option linter.all false
set_option maxRecDepth 100000
set_option maxHeartbeats 4000000
/-! Lw, part 1: a small pure interpreter for the Python that the laws use -/
namespace Lw
open PySem

/-- data: trees; lists and dicts here never change any more; `ref n` is the n-th changing object -/
inductive D where
  | non | bl (b : Bool) | int (i : Int) | str (x : Str) | ty (n : String)
  | tup (xs : List D) | lst (xs : List D) | dct (kvs : List (L2.Key × D)) | ref (n : Nat) | scr (ns : List Int)
/-- what a place holds: nothing known, data, or an object of its own that nothing else refers to -/
inductive O where
  | hole | d (x : D) | lst (xs : List D) | dct (kvs : List (L2.Key × D)) | ins (c : Nat) (fs : List (Str × D)) | opq (o : L2.HO)

def frz : O → Option D
  | .hole => none
  | .d x => some x
  | .lst xs => some (.lst xs)
  | .dct kvs => some (.dct kvs)
  | .ins _ _ => none
  | .opq _ => none

inductive Bop where | add | sub | mul | fdiv | mod | pow
  deriving DecidableEq
inductive Cop where | eq | ne | lt | le | gt | ge | isin | notin | isN | notN
  deriving DecidableEq
inductive Bi where | len | lst | tup | sorted | rep | isi | all | any | sum | min2 | max2 | abs | stri | sumL
  deriving DecidableEq
inductive Mi where | pop | popAt | extend | join | get | idx | remove
  deriving DecidableEq

/-- expressions, argument lists (nil, cons), what a for walks, targets -/
inductive E where
  | var (i : Nat)
  | con (x : D)
  | bin (op : Bop) (a b : E)
  | neg (a : E)
  | cmp (op : Cop) (a b : E)
  | chn (o1 o2 : Cop) (a b c : E)
  | one (a : E)
  | and (a b : E)
  | or (a b : E)
  | not (a : E)
  | ite (c a b : E)
  | tup (es : E)
  | lst (es : E)
  | dsp (es : E)
  | idx (a b : E)
  | sl (a lo hi : E)
  | rev (a : E)
  | call (f : Nat) (es : E)
  | blt (b : Bi) (es : E)
  | app (o e : E)
  | mth (m : Mi) (o es : E)
  | omt (m : Str) (o es : E)
  | new (c : Nat) (es : E)
  | fld (o : E) (f : Str)
  | comp (elt t it cond : E) (own : List Nat)
  | nil
  | cons (e es : E)
  | seq (a : E)
  | rng1 (a : E)
  | rng2 (a b : E)
  | enm (a : E)
  | zipE (es : E)
  | rngl (a : E)
  | rngt (a : E)
  | sumS (a : E)
  | fst (a : E) (z : Str) (b : E)
  | stp (a : E) (k : Nat)
  | callD (f : Nat) (es : E) (ks : List L2.Key)
  | comp2 (elt t it cond t1 it1 cond1 : E) (own own1 : List Nat)
  | slenC (elt t it cond : E) (own : List Nat)
  | slen (a : E)
  | repL (es : E)

inductive S where
  | nil
  | sq (s r : S)
  | expr (e : E)
  | asg (t e : E)
  | aug (i : Nat) (op : Bop) (e : E)
  | augF (o : E) (f : Str) (op : Bop) (e : E)
  | ret (e : E)
  | retN
  | ite (c : E) (a b : S)
  | for (t it : E) (b : S)
  | while (c : E) (b : S)
  | pass
  | brk
  | cont
  | asgH (i : Nat) (e : E)
  | forH (t it : E) (b : S)
  | stop

structure St where
  e : List O
  h : List O

inductive Res (α : Type) where
  | ok (a : α) (s : St)
  | exc (c : Nat) (v : D) (s : St)
  | bad

abbrev M (α : Type) := St → Res α
def ret {α : Type} (a : α) : M α := fun s => .ok a s
def die {α : Type} : M α := fun _ => .bad
def M.bind {α β : Type} (m : M α) (f : α → M β) : M β := fun s =>
  match m s with
  | .ok a s' => f a s'
  | .exc c v s' => .exc c v s'
  | .bad => .bad
def opt {α : Type} (o : Option α) : M α := match o with | some a => ret a | none => die

/-- what an expression gives: something of its own (or data), or what stands at a slot -/
inductive Hd where
  | tmp (o : O)
  | slot (i : Nat)

def hdOf (o : O) : M O := match o with
  | .d (.ref n) => fun s => (match s.h[n]? with | some .hole => .bad | some o => .ok o s | none => .bad)
  | .hole => die
  | o => ret o
/-- the object a handle means, now -/
def look (x : Hd) : M O := match x with
  | .tmp o => hdOf o
  | .slot i => fun s => match s.e[i]? with | some o => hdOf o s | none => .bad
/-- taken as a thing of its own; a slot's own list is frozen -/
def take (x : Hd) : M O := match x with
  | .tmp o => ret o
  | .slot i => fun s => match s.e[i]? with
    | some o => (match frz o with | some x => .ok (.d x) { s with e := s.e.set i (.d x) } | none => .bad)
    | none => .bad
def asD (o : O) : M D := opt (frz o)

/-! ### operators -/
def lv : O → Option (List D)
  | .d (.lst xs) => some xs
  | .lst xs => some xs
  | _ => none
def line (n : Nat) : Bool := decide (n ≤ sizeLine)
def badd : O → O → Option O
  | .d (.int i), .d (.int j) => some (.d (.int (i + j)))
  | .d (.str x), .d (.str y) => if line (x.length + y.length) then some (.d (.str (x ++ y))) else none
  | .d (.tup xs), .d (.tup ys) => if line (xs.length + ys.length) then some (.d (.tup (xs ++ ys))) else none
  | a, b => match lv a, lv b with
    | some xs, some ys => if line (xs.length + ys.length) then some (.lst (xs ++ ys)) else none
    | _, _ => none
def small64 (i : Int) : Bool := decide (-(2 ^ 64) < i) && decide (i < 2 ^ 64)
def bmul : O → O → Option O
  | .d (.int i), .d (.int j) => if small64 i || small64 j then some (.d (.int (i * j))) else none
  | .d (.tup xs), .d (.int k) => if decide (0 ≤ k) && decide (k ≤ 1000) && decide (xs.length ≤ 1000) then some (.d (.tup (List.replicate k.toNat xs).flatten)) else none
  | .d (.str x), .d (.int k) => if decide (0 ≤ k) && decide (k ≤ 1000) && decide (x.length ≤ 10000) then some (.d (.str ⟨(List.replicate k.toNat x.cps.toList).flatten.toArray⟩)) else none
  | a, .d (.int k) => match lv a with
    | some xs => if decide (0 ≤ k) && decide (k < 2 ^ 20) && line (xs.length * k.toNat) then some (.lst (List.replicate k.toNat xs).flatten) else none
    | none => none
  | _, _ => none
def binop : Bop → O → O → Option O
  | .add, a, b => badd a b
  | .sub, .d (.int i), .d (.int j) => some (.d (.int (i - j)))
  | .mul, a, b => bmul a b
  | .fdiv, .d (.int i), .d (.int j) => if decide (j ≠ 0) && decide (j.natAbs < 1073741824) then some (.d (.int (i.fdiv j))) else none
  | .mod, .d (.int i), .d (.int j) => if decide (j ≠ 0) then some (.d (.int (i.fmod j))) else none
  | .pow, .d (.int i), .d (.int j) => if decide (0 ≤ j) && decide (j ≤ 1000000) && decide (i.natAbs < 2 ^ 64) then some (.d (.int (i ^ j.toNat))) else none
  | _, _, _ => none

mutual
def D.py : D → Option PyData
  | .non => some .none
  | .bl b => some (.bool b)
  | .int i => some (.int i)
  | .str x => some (.str x)
  | .tup xs => match pys xs with | some ys => some (.tuple ys) | none => none
  | .lst xs => match pys xs with | some ys => some (.list ys) | none => none
  | .ty _ | .dct _ | .ref _ | .scr _ => none
def pys : List D → Option (List PyData)
  | [] => some []
  | x :: r => match D.py x, pys r with | some y, some ys => some (y :: ys) | _, _ => none
end
def keyP : L2.Key → PyData
  | .inl i => .int i
  | .inr x => .str x
mutual
/-- data without lists, dicts among them -/
def D.pyD : D → Option PyData
  | .non => some .none
  | .bl b => some (.bool b)
  | .int i => some (.int i)
  | .str x => some (.str x)
  | .tup xs => match pysD xs with | some ys => some (.tuple ys) | none => none
  | .dct ks => match pykD ks with | some ys => some (.dict ys) | none => none
  | .ty _ | .ref _ | .scr _ | .lst _ => none
def pysD : List D → Option (List PyData)
  | [] => some []
  | x :: r => match D.pyD x, pysD r with | some y, some ys => some (y :: ys) | _, _ => none
def pykD : List (L2.Key × D) → Option (List (PyData × PyData))
  | [] => some []
  | (k, x) :: r => match D.pyD x, pykD r with | some y, some ys => some ((keyP k, y) :: ys) | _, _ => none
end
def O.pyD : O → Option PyData
  | .d x => x.pyD
  | .dct ks => (D.dct ks).pyD
  | _ => none
def signs (x : Str) : List D := x.cps.toList.map fun c => .str ⟨#[c]⟩
/-! ### dicts -/
def keyOf : D → Option L2.Key
  | .int i => some (.inl i)
  | .str x => some (.inr x)
  | _ => none
def dv : O → Option (List (L2.Key × D))
  | .d (.dct ks) => some ks
  | .dct ks => some ks
  | _ => none
def valK (ks : List (L2.Key × D)) (k : L2.Key) : Option D := (ks.find? fun kv => decide (kv.1 = k)).map (·.2)
def putD (ks : List (L2.Key × D)) (k : L2.Key) (v : D) : List (L2.Key × D) :=
  if (ks.any fun kv => decide (kv.1 = k)) = true then ks.map (fun kv => if kv.1 = k then (kv.1, v) else kv) else ks ++ [(k, v)]
def O.py : O → Option PyData
  | .d x => x.py
  | .lst xs => (D.lst xs).py
  | _ => none
/-- plain things beside texts -/
def scEq : O → O → Option Bool
  | .d (.str x), .d (.str y) => some (decide (x = y))
  | .d (.str _), .d .non => some false
  | .d (.str _), .d (.int _) => some false
  | .d (.str _), .d (.bl _) => some false
  | .d .non, .d (.str _) => some false
  | .d (.int _), .d (.str _) => some false
  | .d (.bl _), .d (.str _) => some false
  | _, _ => none
def eqg (a b : O) : Option Bool :=
  match a.py, b.py with
  | some p, some q => if SeqAt.shaped p && SeqAt.shaped q then some (PyData.eqv p q) else none
  | _, _ => none
def eqo (a b : O) : Option Bool := match scEq a b with | some r => some r | none => eqg a b
def flatD : D → Bool | .non | .bl _ | .int _ | .str _ => true | _ => false
def eqD : D → D → Bool
  | .non, .non => true
  | .bl a, .bl b => a == b
  | .bl a, .int j => (if a then 1 else 0) == j
  | .int i, .bl b => i == (if b then 1 else 0)
  | .int i, .int j => i == j
  | .str x, .str y => x == y
  | _, _ => false
/-- data of any depth in a list of such -/
def isinG (x : D) (xs : List D) : Option Bool := match x.py, pys xs with
  | some d, some ds => if SeqAt.shaped d && SeqAt.shaped (.list ds) then some (ds.any fun z => PyData.eqv z d) else none
  | _, _ => none
def isinO (a b : O) : Option Bool := match a, b with
  | .d (.str x), .d (.str z) => some (!(Builtin.Str.occurrences z x 0 z.length 1).isEmpty)
  | .d x, .d (.tup xs) => if flatD x && xs.all flatD then some (xs.any fun y => eqD y x) else none
  | .d x, b => match lv b with
    | some xs => if flatD x && xs.all flatD then some (xs.any fun y => eqD y x) else isinG x xs
    | none => none
  | _, _ => none
def cmpop : Cop → O → O → Option Bool
  | .eq, a, b => eqo a b
  | .ne, a, b => (eqo a b).map (!·)
  | .lt, .d (.int i), .d (.int j) => some (decide (i < j))
  | .le, .d (.int i), .d (.int j) => some (decide (i ≤ j))
  | .gt, .d (.int i), .d (.int j) => some (decide (j < i))
  | .ge, .d (.int i), .d (.int j) => some (decide (j ≤ i))
  | .lt, .d (.str x), .d (.str y) => some (decide (x.cps.toList < y.cps.toList))
  | .isin, a, b => isinO a b
  | .notin, a, b => (isinO a b).map (!·)
  | .isN, .d (.bl x), .d (.bl y) => some (decide (x = y))
  | .notN, .d (.bl x), .d (.bl y) => some (!decide (x = y))
  | .isN, a, .d .non => match a with | .hole => none | .d (.ty _) => none | .d .non => some true | _ => some false
  | .notN, a, .d .non => match a with | .hole => none | .d (.ty _) => none | .d .non => some false | _ => some true
  | _, _, _ => none

/-! ### items, slices, built-ins -/
def getIdx (a b : O) : Option D := match a, b with
  | .d (.tup xs), .d (.int i) => L2.atI xs i
  | .d (.lst xs), .d (.int i) => L2.atI xs i
  | .lst xs, .d (.int i) => L2.atI xs i
  | .d (.str x), .d (.int i) => if line x.length then (L2.atI x.cps.toList i).map fun c => .str ⟨#[c]⟩ else none
  | a, .d y => match dv a, keyOf y with | some ks, some k => valK ks k | _, _ => none
  | _, _ => none
def cutL {α : Type} (xs : List α) (lo hi : Option Int) : List α := (xs.drop (HT.sIx xs.length 0 lo)).take (HT.sIx xs.length xs.length hi - HT.sIx xs.length 0 lo)
def getCut (a : O) (lo hi : Option Int) : Option O := match a with
  | .d (.tup xs) => some (.d (.tup (cutL xs lo hi)))
  | .d (.str x) => if line x.length then some (.d (.str (L2.cutS x lo hi))) else none
  | .d (.scr ns) => some (.lst ((cutL ns lo hi).map .int))
  | a => match lv a with | some xs => some (.lst (cutL xs lo hi)) | none => none
def tyName : O → Option String
  | .d .non => some "NoneType" | .d (.bl _) => some "bool" | .d (.int _) => some "int" | .d (.str _) => some "str"
  | .d (.tup _) => some "tuple" | .d (.lst _) => some "list" | .lst _ => some "list" | .d (.dct _) => some "dict" | .dct _ => some "dict"
  | _ => none
def tyKnown : List String := ["NoneType", "bool", "int", "str", "tuple", "list", "dict"]
def isiB (m n : String) : Option Bool :=
  if tyKnown.contains m && tyKnown.contains n then (if m == n || (m == "bool" && n == "int") then some true else some false) else none
def strsOf : List D → Option (List Str)
  | [] => some []
  | .str x :: r => match strsOf r with | some xs => some (x :: xs) | none => none
  | _ :: _ => none
def intsOf : List D → Option (List Int)
  | [] => some []
  | .int x :: r => match intsOf r with | some xs => some (x :: xs) | none => none
  | _ :: _ => none
def blsOf : List D → Option (List Bool)
  | [] => some []
  | .bl x :: r => match blsOf r with | some xs => some (x :: xs) | none => none
  | _ :: _ => none
/-- a list or a tuple -/
def sv : O → Option (List D)
  | .d (.tup xs) => some xs
  | o => lv o
def lenOf : O → Option Nat
  | .d (.tup xs) => some xs.length
  | .d (.lst xs) => some xs.length
  | .lst os => some os.length
  | .d (.str x) => if line x.length then some x.length else none
  | _ => none
def strLe (a b : Str) : Bool := decide (a.cps.toList ≤ b.cps.toList)
def bLen : List O → Option O
  | [a] => match lenOf a with | some n => some (.d (.int ((n : Nat) : Int))) | none => none
  | _ => none
def bLst : List O → Option O
  | [.d (.str x)] => if decide (x.length ≤ 1000000) then some (.lst (signs x)) else none
  | [a] => (sv a).map fun xs => .lst xs
  | _ => none
def bTup : List O → Option O
  | [.d (.tup xs)] => some (.d (.tup xs))
  | [a] => (lv a).map fun xs => .d (.tup xs)
  | _ => none
def bSorted : List O → Option O
  | [a] => match lv a with
    | some xs => (match strsOf xs with
      | some ys => if decide (ys.length < 64) then some (.lst ((ys.mergeSort strLe).map .str)) else none
      | none => (match intsOf xs with
        | some ns => if decide (ns.length < 64) then some (.lst ((ns.mergeSort fun a b => decide (a ≤ b)).map .int)) else none
        | none => none))
    | none => none
  | _ => none
def bRep : List O → Option O
  | [a] => match a.py with
    | some p => if p.showable && line p.shown.length && decide (p.depth ≤ 64) then some (.d (.str p.shown)) else none
    | none => match a.pyD with
      | some p => if p.showable && line p.shown.length && decide (p.depth ≤ 64) then some (.d (.str p.shown)) else none
      | none => none
  | _ => none
def bIsi : List O → Option O
  | [a, .d (.ty n)] => match tyName a with
    | some m => (isiB m n).map fun b => .d (.bl b)
    | none => none
  | _ => none
def bAll : List O → Option O
  | [a] => match lv a with | some xs => (blsOf xs).map fun bs => .d (.bl (bs.all id)) | none => none
  | _ => none
def bAny : List O → Option O
  | [a] => match lv a with | some xs => (blsOf xs).map fun bs => .d (.bl (bs.any id)) | none => none
  | _ => none
def bSum : List O → Option O
  | [a] => match lv a with | some xs => (intsOf xs).map fun ns => .d (.int ns.sum) | none => none
  | _ => none
/-- lists, one behind another -/
def catD : List D → Option (List D)
  | [] => some []
  | .lst xs :: r => match catD r with | some ys => some (xs ++ ys) | none => none
  | _ :: _ => none
def bSumL : List O → Option O
  | [a, .lst []] => match lv a with
    | some (x :: xs) => (match catD (x :: xs) with
      | some ys => if line ys.length then some (.lst ys) else none
      | none => none)
    | _ => none
  | _ => none
def bMin : List O → Option O
  | [.d (.int i), .d (.int j)] => some (.d (.int (if j < i then j else i)))
  | _ => none
def bMax : List O → Option O
  | [.d (.int i), .d (.int j)] => some (.d (.int (if j > i then j else i)))
  | _ => none
def bAbs : List O → Option O
  | [.d (.int i)] => some (.d (.int (if i < 0 then -i else i)))
  | _ => none
def bStri : List O → Option O
  | [.d (.str z)] => some (.d (.str z))
  | [.d (.int i)] => if decide (i.natAbs.log2 < 1920) then some (.d (.str (toString i))) else none
  | _ => none
def bltop : Bi → List O → Option O
  | .len => bLen | .lst => bLst | .tup => bTup | .sorted => bSorted | .rep => bRep | .isi => bIsi | .all => bAll | .any => bAny
  | .sum => bSum | .min2 => bMin | .max2 => bMax | .abs => bAbs | .stri => bStri | .sumL => bSumL
/-- methods: the object's new content, and what is told -/
def mPop (xs : List D) : List O → Option (List D × D)
  | [] => match xs[xs.length - 1]? with | some x => some (xs.dropLast, x) | none => none
  | _ => none
def mPopAt (xs : List D) : List O → Option (List D × D)
  | [.d (.int i)] => if decide (-(2 ^ 63) ≤ i) && decide (i < 2 ^ 63) then
      (match seqIndex? i xs.length with
      | some k => (match xs[k]? with | some x => some (xs.eraseIdx k, x) | none => none)
      | none => none) else none
  | _ => none
def mExtend (xs : List D) : List O → Option (List D × D)
  | [a] => match sv a with
    | some ys => if line (xs.length + ys.length) then some (xs ++ ys, .non) else none
    | none => (match a with
      | .d (.str z) => if line (xs.length + z.length) then some (xs ++ signs z, .non) else none
      | _ => none)
  | _ => none
def mRemove (xs : List D) : List O → Option (List D × D)
  | [.d (.str z)] => match strsOf xs with
    | some ys => if decide (ys.idxOf z < ys.length) then some (xs.eraseIdx (ys.idxOf z), .non) else none
    | none => none
  | _ => none
/-- methods that change a list -/
def mutop : Mi → Option (List D → List O → Option (List D × D))
  | .pop => some mPop | .popAt => some mPopAt | .extend => some mExtend | .remove => some mRemove | _ => none
def mJoin : O → List O → Option O
  | .d (.str x), [a] => match sv a with
    | some xs => (match strsOf xs with
      | some ys => if decide ((ys.map (·.length)).sum + ys.length * x.length ≤ 16777216) then some (.d (.str (Str.join x ys))) else none
      | none => none)
    | none => none
  | _, _ => none
/-- d.get(k), d.get(k, x) -/
def mGet (q : O) : List O → Option O
  | [.d y] => match dv q, keyOf y with | some ks, some k => some (.d ((valK ks k).getD .non)) | _, _ => none
  | [.d y, .d z] => match dv q, keyOf y with | some ks, some k => some (.d ((valK ks k).getD z)) | _, _ => none
  | _ => none
def tellop : Mi → O → List O → Option O
  | .join => mJoin | .get => mGet | _ => fun _ _ => none
/-- what a method is asked of -/
def recv : Mi → O → Bool
  | .join, .d (.str _) => true
  | .join, _ => false
  | .get, o => (dv o).isSome
  | _, .lst _ => true
  | _, _ => false
/-- what a for walks, as a list of data -/
def itsOf : O → Option (List D)
  | .d (.tup xs) => some xs
  | .d (.lst xs) => some xs
  | .d (.str x) => some (signs x)
  | _ => none
def rngOk (i : Int) : Bool := decide (-(2 ^ 62) ≤ i) && decide (i < 2 ^ 62)
def rngD (lo : Int) (n : Nat) : List D := (List.range n).map fun (i : Nat) => .int (lo + (i : Int))
def numbered (xs : List D) : List D := (List.range xs.length).zipWith (fun (i : Nat) x => .tup [.int (i : Int), x]) xs

/-! ### the evaluator -/
inductive CRes where
  | ok (o : O) (h : List O)
  | exc (c : Nat) (v : D) (h : List O)
  | bad
/-- a call of a def of the table (by number), of a method by name, the making of an instance -/
structure Cl where
  fn : Nat → List O → List O → CRes
  mt : Nat → Str → Option Nat
  ini : Nat → Option Nat
def runCl (r : CRes) (e : List O) : Res O := match r with
  | .ok o h => .ok o ⟨e, h⟩
  | .exc c v h => .exc c v ⟨e, h⟩
  | .bad => .bad

def wipeE (e : List O) : List Nat → List O
  | [] => e
  | i :: r => (wipeE e r).set i .hole
def backE (e0 e : List O) : List Nat → List O
  | [] => e
  | i :: r => (backE e0 e r).set i (e0.getD i .hole)
def compL (f : D → M (Option D)) : List D → List D → M (List D)
  | [], acc => ret acc
  | x :: r, acc => (f x).bind fun o => match o with
    | some y => fun s => if decide (acc.length < sizeLine) then compL f r (acc ++ [y]) s else .bad
    | none => compL f r acc
def keyD : L2.Key → D
  | .inl i => .int i
  | .inr x => .str x
/-- texts, each once -/
def addS (l : List Str) (z : Str) : List Str := if decide (z ∈ l) then l else l ++ [z]
def compS (f : D → M (Option Str)) : List D → List Str → M (List Str)
  | [], acc => ret acc
  | x :: r, acc => (f x).bind fun v => match v with
    | some z => if decide (acc.length < 4000) then compS f r (addS acc z) else die
    | none => compS f r acc
def comp2L (f : D → List D → M (List D)) : List D → List D → M (List D)
  | [], acc => ret acc
  | x :: r, acc => (f x acc).bind fun acc' => comp2L f r acc'
def bSlen (a : O) : Option O := match lv a with
  | some xs => (match intsOf xs with
    | some ns => if decide (ns.length < 64) && decide ns.Nodup then some (.d (.int ns.length)) else none
    | none => none)
  | none => none
def truth (x : Hd) : M Bool := match x with | .tmp (.d (.bl b)) => ret b | _ => die
def intOf (x : Hd) : M Int := match x with | .tmp (.d (.int i)) => ret i | _ => die
def setFs (f : Str) (v : D) : List (Str × D) → List (Str × D)
  | [] => [(f, v)]
  | (g, w) :: r => if g = f then (g, v) :: r else (g, w) :: setFs f v r
/-- a thing of its own becomes the object with the next number -/
def publ (o : O) : M D := match o with
  | .hole => die
  | .d x => ret x
  | o => fun s => .ok (.ref s.h.length) ⟨s.e, s.h ++ [o]⟩
/-- a display of nothing: a list or a dict that is to change -/
def fresh : E → Bool
  | .lst .nil => true
  | .dsp .nil => true
  | _ => false
def stow (b : Bool) (o : O) : M D := if b then (match o with
  | .lst [] => publ (.lst [])
  | .dct [] => publ (.dct [])
  | o => asD o) else asD o

/-- the list at a handle is changed -/
def modL (x : Hd) (f : List D → Option (List D × D)) : M D := match x with
  | .slot k => fun s => match s.e[k]? with
    | some (.lst xs) => (match f xs with | some (ys, r) => .ok r { s with e := s.e.set k (.lst ys) } | none => .bad)
    | _ => .bad
  | .tmp (.d (.ref n)) => fun s => match s.h[n]? with
    | some (.lst xs) => (match f xs with | some (ys, r) => .ok r { s with h := s.h.set n (.lst ys) } | none => .bad)
    | _ => .bad
  | _ => die
def fApp (v : D) (xs : List D) : Option (List D × D) := if decide (xs.length < sizeLine) then some (xs ++ [v], .non) else none
def fSet (i : Int) (v : D) (xs : List D) : Option (List D × D) := match L2.ixN xs.length i with | some j => some (xs.set j v, .non) | none => none
def setFld (x : Hd) (f : Str) (v : D) : M Unit := match x with
  | .tmp (.d (.ref n)) => fun s => match s.h[n]? with
    | some (.ins c fs) => if decide (fs.length < 1000) then .ok () { s with h := s.h.set n (.ins c (setFs f v fs)) } else .bad
    | _ => .bad
  | _ => die
/-- what a list target takes, from data -/
def unpk (o : O) : Option (List D) := match o with | .d (.tup xs) => some xs | .d (.lst xs) => some xs | .lst xs => some xs | _ => none
def fldOf (x : Hd) (f : Str) : M D := fun s => match x with
  | .tmp (.d (.ref n)) => (match s.h[n]? with | some (.ins _ fs) => opt (fs.lookup f) s | _ => .bad)
  | _ => .bad
def clsOf (x : Hd) (m : Str) : M (Nat × Nat) := fun s => match x with
  | .tmp (.d (.ref n)) => (match s.h[n]? with | some (.ins c fs) => (match fs.lookup m with | none => .ok (c, n) s | some _ => .bad) | _ => .bad)
  | _ => .bad
def avD (vs : List O) : Option (List D) := match vs with
  | [] => some []
  | o :: r => match frz o, avD r with | some x, some xs => some (x :: xs) | _, _ => none
/-- an argument of a def: data; a thing of its own is frozen, or (p) becomes a numbered object -/
def argM (p : Bool) (x : Hd) : M O := match x with
  | .tmp (.d y) => ret (.d y)
  | .tmp o => if p then (publ o).bind fun y => ret (.d y) else (asD o).bind fun y => ret (.d y)
  | .slot i => if p then fun s => (match s.e[i]? with
      | some (.d y) => .ok (.d y) s
      | some .hole => .bad
      | some o => .ok (.d (.ref s.h.length)) ⟨s.e.set i (.d (.ref s.h.length)), s.h ++ [o]⟩
      | none => .bad) else take (.slot i)
/-- what a return hands back: a slot's own thing leaves -/
def moveM (x : Hd) : M O := match x with
  | .tmp o => ret o
  | .slot i => fun s => match s.e[i]? with
    | some .hole => .bad
    | some o => .ok o { s with e := s.e.set i .hole }
    | none => .bad
def looks : List Hd → M (List O)
  | [] => ret []
  | x :: r => (look x).bind fun o => (looks r).bind fun os => ret (o :: os)
def revS (z : Str) : Str := ⟨z.cps.toList.reverse.toArray⟩
def getRev (a : O) : Option O := match a with
  | .d (.str x) => if line x.length then some (.d (.str (revS x))) else none
  | .d (.tup xs) => some (.d (.tup xs.reverse))
  | a => match lv a with | some xs => some (.lst xs.reverse) | none => none
def pickK {α : Type} (k : Nat) (xs : List α) : List α := (sliceRange 0 xs.length k).filterMap (xs[·]?)
/-- a thing in an f-string -/
def fmtV : O → Option Str
  | .d (.int i) => if decide (i.natAbs.log2 < 1920) then some (toString i) else none
  | .d (.str y) => if line y.length then some y else none
  | _ => none
def sumS (a : O) : Option O := match lv a with
  | some xs => (match catD xs with | some ys => if line ys.length then some (.lst ys) else none | none => none)
  | none => none
def getStp (k : Nat) (a : O) : Option O := match lv a with | some xs => some (.lst (pickK k xs)) | none => none
def zipD (xs ys : List D) : List D := (xs.zip ys).map fun z => .tup [z.1, z.2]
/-- a dict is changed in its place -/
def modK (x : Hd) (f : List (L2.Key × D) → Option (List (L2.Key × D))) : M Unit := match x with
  | .slot i => fun s => (match s.e[i]? with
    | some (.dct ks) => (match f ks with
      | some ys => .ok () { s with e := s.e.set i (.dct ys) }
      | none => .bad)
    | _ => .bad)
  | .tmp (.d (.ref n)) => fun s => (match s.h[n]? with
    | some (.dct ks) => (match f ks with
      | some ys => .ok () { s with h := s.h.set n (.dct ys) }
      | none => .bad)
    | _ => .bad)
  | _ => die
def fPut (k : L2.Key) (v : D) (ks : List (L2.Key × D)) : Option (List (L2.Key × D)) := if decide (ks.length < sizeLine) then some (putD ks k v) else none
/-- a store at an item: of a list by a whole number, of a dict by a text -/
def setI (x y : Hd) (o : O) : M Unit := match y with
  | .tmp (.d (.int i)) => (asD o).bind fun v => (modL x (fSet i v)).bind fun _ => ret ()
  | .tmp (.d (.str z)) => (asD o).bind fun v => modK x (fPut (.inr z) v)
  | _ => die
mutual
def hd (cl : Cl) (fl : Nat → List Bool) : E → M Hd
  | .var i => fun s => match s.e[i]? with
    | some (.d x) => .ok (.tmp (.d x)) s
    | some .hole => .bad
    | some _ => .ok (.slot i) s
    | none => .bad
  | .con x => ret (.tmp (.d x))
  | .bin op a b => (hd cl fl a).bind fun x => (hd cl fl b).bind fun y => (look x).bind fun p => (look y).bind fun q => (opt (binop op p q)).bind fun r => ret (.tmp r)
  | .neg a => (hd cl fl a).bind fun x => (intOf x).bind fun i => ret (.tmp (.d (.int (-i))))
  | .cmp op a b => (hd cl fl a).bind fun x => (hd cl fl b).bind fun y => (look x).bind fun p => (look y).bind fun q => (opt (cmpop op p q)).bind fun r => ret (.tmp (.d (.bl r)))
  | .chn o1 o2 a b c => (hd cl fl a).bind fun x => (hd cl fl b).bind fun y => (look x).bind fun p => (look y).bind fun q => (opt (cmpop o1 p q)).bind fun r =>
      if r then (hd cl fl c).bind fun z => (look y).bind fun q => (look z).bind fun u => (opt (cmpop o2 q u)).bind fun r => ret (.tmp (.d (.bl r))) else ret (.tmp (.d (.bl false)))
  | .one a => hd cl fl a
  | .and a b => (hd cl fl a).bind fun x => (truth x).bind fun c => if c then hd cl fl b else ret (.tmp (.d (.bl false)))
  | .or a b => (hd cl fl a).bind fun x => (truth x).bind fun c => if c then ret (.tmp (.d (.bl true))) else hd cl fl b
  | .not a => (hd cl fl a).bind fun x => (truth x).bind fun c => ret (.tmp (.d (.bl !c)))
  | .ite c a b => (hd cl fl c).bind fun x => (truth x).bind fun k => if k then hd cl fl a else hd cl fl b
  | .tup es => (evs cl fl es).bind fun xs => if line xs.length then ret (.tmp (.d (.tup xs))) else die
  | .lst es => (evs cl fl es).bind fun xs => if line xs.length then ret (.tmp (.lst xs)) else die
  | .idx a b => (hd cl fl a).bind fun x => (hd cl fl b).bind fun y => (look x).bind fun p => (look y).bind fun q => (opt (getIdx p q)).bind fun r => ret (.tmp (.d r))
  | .sl a lo hi => (hd cl fl a).bind fun x => (part cl fl lo).bind fun l => (part cl fl hi).bind fun u => (look x).bind fun p => (opt (getCut p l u)).bind fun r => ret (.tmp r)
  | .rev a => (hd cl fl a).bind fun x => (look x).bind fun p => (opt (getRev p)).bind fun r => ret (.tmp r)
  | .rngl a => (hd cl fl a).bind fun x => (intOf x).bind fun i => if decide (-(2 ^ 62) ≤ i) && decide (i ≤ 2 ^ 24) then ret (.tmp (.lst (rngD 0 i.toNat))) else die
  | .rngt a => (hd cl fl a).bind fun x => (intOf x).bind fun i => if decide (-(2 ^ 62) ≤ i) && decide (i ≤ 2 ^ 24) then ret (.tmp (.d (.tup (rngD 0 i.toNat)))) else die
  | .sumS a => (hd cl fl a).bind fun x => (look x).bind fun p => (opt (sumS p)).bind fun r => ret (.tmp r)
  | .fst a z b => (hd cl fl a).bind fun x => (look x).bind fun p => (opt (fmtV p)).bind fun s1 => if line (s1 ++ z).length then (hd cl fl b).bind fun y => (look y).bind fun q => (opt (fmtV q)).bind fun s2 =>
      if line (s1 ++ z ++ s2).length then ret (.tmp (.d (.str (s1 ++ z ++ s2)))) else die
    else die
  | .dsp .nil => ret (.tmp (.dct []))
  | .stp a k => (hd cl fl a).bind fun x => (look x).bind fun p => (opt (getStp k p)).bind fun r => ret (.tmp r)
  | .call f es => (avs cl fl (fl f) es).bind fun os s => (match runCl (cl.fn f os s.h) s.e with | .ok o s => .ok (.tmp o) s | .exc c v s => .exc c v s | .bad => .bad)
  | .blt b es => (hds cl fl es).bind fun xs => (looks xs).bind fun os => (opt (bltop b os)).bind fun r => ret (.tmp r)
  | .app o e => (hd cl fl o).bind fun x => (look x).bind fun p => if recv .pop p then
      (hd cl fl e).bind fun y => (take y).bind fun q => (stow (fresh e) q).bind fun v => (modL x (fApp v)).bind fun r => ret (.tmp (.d r)) else die
  | .mth m o es => (hd cl fl o).bind fun x => (look x).bind fun p => if recv m p then
      (hds cl fl es).bind fun xs => (looks xs).bind fun vs => (match mutop m with
        | some f => (modL x fun os => f os vs).bind fun r => ret (.tmp (.d r))
        | none => (look x).bind fun q => (opt (tellop m q vs)).bind fun r => ret (.tmp r)) else die
  | .omt m o es => (hd cl fl o).bind fun x => (clsOf x m).bind fun c => match cl.mt c.1 m with
    | some f => (avs cl fl (fl f).tail es).bind fun os s => (match runCl (cl.fn f (.d (.ref c.2) :: os) s.h) s.e with | .ok o s => .ok (.tmp o) s | .exc c v s => .exc c v s | .bad => .bad)
    | none => die
  | .new c es => match cl.ini c with
    | some f => (avs cl fl (fl f).tail es).bind fun os s => (match runCl (cl.fn f (.d (.ref s.h.length) :: os) (s.h ++ [.ins c []])) s.e with
        | .ok (.d .non) s' => .ok (.tmp (.d (.ref s.h.length))) s' | .ok _ _ => .bad | .exc c v s => .exc c v s | .bad => .bad)
    | none => die
  | .fld o f => (hd cl fl o).bind fun x => (fldOf x f).bind fun v => ret (.tmp (.d v))
  | .comp elt t it cond own => (its cl fl it).bind fun xs s =>
      (match compL (fun x s => ((asg cl fl t (.d x)).bind fun _ => (hd cl fl cond).bind fun z => (truth z).bind fun k =>
          if k then (hd cl fl elt).bind fun y => (take y).bind fun o => (stow (fresh elt) o).bind fun v => ret (some v) else ret none) { s with e := wipeE s.e own }) xs [] s with
        | .ok os s' => .ok (.tmp (.lst os)) { s' with e := backE s.e (wipeE s'.e own) own }
        | .exc c v s' => .exc c v s'
        | .bad => .bad)
  | .callD f es ks => (avs cl fl (fl f) es).bind fun os s => (match runCl (cl.fn f (os ++ ks.map fun k => .d (keyD k)) s.h) s.e with | .ok o s => .ok (.tmp o) s | .exc c v s => .exc c v s | .bad => .bad)
  | .repL es => (evs cl fl es).bind fun xs => (match pysD xs with
      | some ps => if (PyData.list ps).showable && line (PyData.list ps).shown.length && decide ((PyData.list ps).depth ≤ 64) && line xs.length then ret (.tmp (.d (.str (PyData.list ps).shown))) else die
      | none => die)
  | .slen a => (hd cl fl a).bind fun x => (look x).bind fun p => (opt (bSlen p)).bind fun r => ret (.tmp r)
  | .slenC elt t it cond own => (its cl fl it).bind fun xs s =>
      (match compS (fun x s => ((asg cl fl t (.d x)).bind fun _ => (hd cl fl cond).bind fun z => (truth z).bind fun k =>
          if k then (hd cl fl elt).bind fun y => (match y with | .tmp (.d (.str z)) => ret (some z) | _ => die) else ret none) { s with e := wipeE s.e own }) xs [] s with
        | .ok os s' => .ok (.tmp (.d (.int os.length))) { s' with e := backE s.e (wipeE s'.e own) own }
        | .exc c v s' => .exc c v s'
        | .bad => .bad)
  | .comp2 elt t it cond t1 it1 cond1 own own1 => (its cl fl it).bind fun xs s =>
      (match comp2L (fun x acc s => ((asg cl fl t (.d x)).bind fun _ => (hd cl fl cond).bind fun z => (truth z).bind fun k =>
          if k then (its cl fl it1).bind fun ys => compL (fun x s => ((asg cl fl t1 (.d x)).bind fun _ => (hd cl fl cond1).bind fun z => (truth z).bind fun k =>
            if k then (hd cl fl elt).bind fun y => (take y).bind fun o => (stow (fresh elt) o).bind fun v => ret (some v) else ret none) { s with e := wipeE s.e own1 }) ys acc else ret acc) { s with e := wipeE s.e own }) xs [] s with
        | .ok os s' => .ok (.tmp (.lst os)) { s' with e := backE s.e (wipeE s'.e own) own }
        | .exc c v s' => .exc c v s'
        | .bad => .bad)
  | _ => die
/-- displayed things -/
def evs (cl : Cl) (fl : Nat → List Bool) : E → M (List D)
  | .nil => ret []
  | .cons e es => (hd cl fl e).bind fun x => (take x).bind fun o => (stow (fresh e) o).bind fun v => (evs cl fl es).bind fun os => ret (v :: os)
  | _ => die
/-- arguments of a built-in -/
def hds (cl : Cl) (fl : Nat → List Bool) : E → M (List Hd)
  | .nil => ret []
  | .cons e es => (hd cl fl e).bind fun x => (hds cl fl es).bind fun xs => ret (x :: xs)
  | _ => die
/-- arguments of a def -/
def avs (cl : Cl) (fl : Nat → List Bool) (ps : List Bool) : E → M (List O)
  | .nil => ret []
  | .cons e es => (hd cl fl e).bind fun x => (argM (ps.headD false) x).bind fun o => (avs cl fl ps.tail es).bind fun os => ret (o :: os)
  | _ => die
def part (cl : Cl) (fl : Nat → List Bool) : E → M (Option Int)
  | .nil => ret none
  | .one e => (hd cl fl e).bind fun x => (intOf x).bind fun i => ret (some i)
  | _ => die
def its (cl : Cl) (fl : Nat → List Bool) : E → M (List D)
  | .seq a => (hd cl fl a).bind fun x => (take x).bind fun o => (asD o).bind fun y => opt (itsOf (.d y))
  | .rng1 a => (hd cl fl a).bind fun x => (intOf x).bind fun i => if rngOk i then ret (rngD 0 i.toNat) else die
  | .rng2 a b => (hd cl fl a).bind fun x => (hd cl fl b).bind fun y => (intOf x).bind fun i => (intOf y).bind fun j => if rngOk i && rngOk j then ret (rngD i (j - i).toNat) else die
  | .zipE es => (avs cl fl [] es).bind fun os => match os with | [.d (.lst xs), .d (.lst ys)] => ret (zipD xs ys) | _ => die
  | .enm a => (hd cl fl a).bind fun x => (take x).bind fun o => (asD o).bind fun y => (opt (itsOf (.d y))).bind fun xs => match y with | .tup _ => die | _ => ret (numbered xs)
  | _ => die
def asg (cl : Cl) (fl : Nat → List Bool) : E → O → M Unit
  | .var i, o => fun s => if decide (i < s.e.length) then .ok () { s with e := s.e.set i o } else .bad
  | .tup ts, o => (opt (unpk o)).bind fun xs => asgs cl fl ts xs
  | .idx a b, o => (hd cl fl a).bind fun x => (hd cl fl b).bind fun y => setI x y o
  | .fld a f, o => (hd cl fl a).bind fun x => (publ o).bind fun v => setFld x f v
  | _, _ => die
def asgs (cl : Cl) (fl : Nat → List Bool) : E → List D → M Unit
  | .nil, [] => ret ()
  | .cons t ts, x :: xs => (asg cl fl t (.d x)).bind fun _ => asgs cl fl ts xs
  | _, _ => die
end

inductive Flow where | next | brk | cont | ret (o : O)
def forL (f : D → M Flow) : List D → M Flow
  | [] => ret .next
  | x :: r => (f x).bind fun w => match w with
    | .next => forL f r
    | .cont => forL f r
    | .brk => ret .next
    | .ret o => ret (.ret o)
def whileN (c : M Bool) (f : M Flow) : Nat → M Flow
  | 0 => die
  | n + 1 => c.bind fun k => if k then f.bind fun w => (match w with
    | .next => whileN c f n
    | .cont => whileN c f n
    | .brk => ret .next
    | .ret o => ret (.ret o)) else ret .next
/-- the list at a number is walked as it stands, never longer or shorter -/
def walkH (f : D → M Flow) (n : Nat) : Nat → Nat → M Flow
  | i, 0 => fun s => match s.h[n]? with
    | some (.lst xs) => if decide (xs.length = i) then .ok .next s else .bad
    | _ => .bad
  | i, m + 1 => fun s => match s.h[n]? with
    | some (.lst xs) => (match xs[i]? with
      | some x => ((f x).bind fun w => match w with
        | .next => walkH f n (i + 1) m
        | .cont => walkH f n (i + 1) m
        | .brk => ret .next
        | .ret o => ret (.ret o)) s
      | none => .bad)
    | _ => .bad
def openH (f : D → M Flow) : Hd → M Flow
  | .tmp (.d (.ref n)) => fun s => match s.h[n]? with
    | some (.lst xs) => walkH f n 0 xs.length s
    | _ => .bad
  | _ => die
def augI : Bop → Int → Int → Option Int
  | .add, i, j => some (i + j)
  | .sub, i, j => some (i - j)
  | _, _, _ => none
def ex (cl : Cl) (fl : Nat → List Bool) (wf : Nat) : S → M Flow
  | .nil => ret .next
  | .sq a b => (ex cl fl wf a).bind fun w => match w with | .next => ex cl fl wf b | w => ret w
  | .expr e => (hd cl fl e).bind fun _ => ret .next
  | .asg t e => (hd cl fl e).bind fun x => (take x).bind fun o => (asg cl fl t o).bind fun _ => ret .next
  | .aug i op e => (hd cl fl (.var i)).bind fun x => (hd cl fl e).bind fun y => (intOf x).bind fun a => (intOf y).bind fun b => (opt (augI op a b)).bind fun r => (asg cl fl (.var i) (.d (.int r))).bind fun _ => ret .next
  | .augF o f op e => (hd cl fl o).bind fun x => (fldOf x f).bind fun v => (hd cl fl e).bind fun y => (intOf (.tmp (.d v))).bind fun a => (intOf y).bind fun b => (opt (augI op a b)).bind fun r => (setFld x f (.int r)).bind fun _ => ret .next
  | .ret e => (hd cl fl e).bind fun x => (moveM x).bind fun o => ret (.ret o)
  | .retN => ret (.ret (.d .non))
  | .ite c a b => (hd cl fl c).bind fun x => (truth x).bind fun k => if k then ex cl fl wf a else ex cl fl wf b
  | .for t it b => (its cl fl it).bind fun xs => forL (fun x => (asg cl fl t (.d x)).bind fun _ => ex cl fl wf b) xs
  | .while c b => whileN ((hd cl fl c).bind truth) (ex cl fl wf b) wf
  | .pass => ret .next
  | .brk => ret .brk
  | .cont => ret .cont
  | .stop => die
  | .asgH i e => (hd cl fl e).bind fun x => (argM true x).bind fun o => (asg cl fl (.var i) o).bind fun _ => ret .next
  | .forH t it b => (hd cl fl it).bind fun x => openH (fun y => (asg cl fl t (.d y)).bind fun _ => ex cl fl wf b) x

/-- a def of the table: how many parameters, how many slots, which parameters become numbered objects, the body -/
structure Df where
  np : Nat
  ns : Nat
  fl : List Bool
  body : S
structure Tab where
  defs : List Df
  mts : List (Nat × Str × Nat)
  inis : List (Nat × Nat)
def Tab.cl (tb : Tab) (r : Nat → List O → List O → CRes) : Cl where
  fn := r
  mt := fun c m => (tb.mts.find? fun p => p.1 == c && p.2.1 == m).map (·.2.2)
  ini := fun c => (tb.inis.find? fun p => p.1 == c).map (·.2)
def Tab.fl (tb : Tab) (f : Nat) : List Bool := match tb.defs[f]? with | some d => d.fl | none => []
def run (tb : Tab) (wf : Nat) : Nat → Nat → List O → List O → CRes
  | 0, _, _, _ => .bad
  | n + 1, f, os, h => match tb.defs[f]? with
    | none => .bad
    | some d => if os.length = d.np then
        (match ex (tb.cl (run tb wf n)) tb.fl wf d.body ⟨os ++ List.replicate (d.ns - d.np) .hole, h⟩ with
        | .ok (.ret o) s => .ok o s.h
        | .ok .next s => .ok (.d .non) s.h
        | .ok _ _ => .bad
        | .exc c v s => .exc c v s.h
        | .bad => .bad) else .bad
end Lw

set_option Elab.async false
set_option linter.all false
set_option maxRecDepth 100000
set_option maxHeartbeats 4000000
/-! Lw, part 2: how data and things lie in the layer's heap -/
namespace Lw
open PySem L2
abbrev Fg := PySem.W.Frag
abbrev Th := O × Option V

mutual
def RD (K : Fg) (Z : Hp) (ρ : List Addr) : D → V → Prop
  | .non, v => v = .non
  | .bl b, v => v = .bl b
  | .int i, v => v = .int i
  | .str x, v => v = .str x
  | .ty n, v => v = .ty n
  | .tup xs, v => ∃ a vs, v = .ref a ∧ SqT K Z a vs ∧ RDs K Z ρ xs vs
  | .lst xs, v => ∃ a vs, v = .ref a ∧ Z a = some (.lst vs) ∧ RDs K Z ρ xs vs
  | .scr ns, v => ∃ a, v = .ref a ∧ SqL K Z a (ns.map V.int)
  | .dct kvs, v => ∃ a ws, v = .ref a ∧ Z a = some (.dK ws) ∧ RDk K Z ρ kvs ws
  | .ref n, v => ∃ a, ρ[n]? = some a ∧ v = .ref a
def RDs (K : Fg) (Z : Hp) (ρ : List Addr) : List D → List V → Prop
  | [], vs => vs = []
  | x :: xs, vs => ∃ v r, vs = v :: r ∧ RD K Z ρ x v ∧ RDs K Z ρ xs r
def RDk (K : Fg) (Z : Hp) (ρ : List Addr) : List (L2.Key × D) → List (L2.Key × V) → Prop
  | [], vs => vs = []
  | (k, x) :: xs, vs => ∃ v r, vs = (k, v) :: r ∧ RD K Z ρ x v ∧ RDk K Z ρ xs r
end

def Le (Z H : Hp) : Prop := ∀ a o, Z a = some o → H a = some o
theorem Le.refl (Z : Hp) : Le Z Z := fun _ _ h => h
theorem Le.trans {X Y Z : Hp} (h : Le X Y) (k : Le Y Z) : Le X Z := fun a o q => k a o (h a o q)
theorem Le.rd {Z H : Hp} (h : Le Z H) {a : Addr} {u : HO} (r : Rd Z a u) : Rd H a u := by
  rcases r with r | ⟨o, r⟩
  · exact .inl (h _ _ r)
  · exact .inr ⟨o, h _ _ r⟩
theorem Le.sqT {K : Fg} {Z H : Hp} (h : Le Z H) {a : Addr} {xs : List V} (r : SqT K Z a xs) : SqT K H a xs := by
  rcases r with r | r
  · exact .inl (h.rd r)
  · exact .inr r
theorem Le.sqL {K : Fg} {Z H : Hp} (h : Le Z H) {a : Addr} {xs : List V} (r : SqL K Z a xs) : SqL K H a xs := by
  rcases r with r | r
  · exact .inl (h.rd r)
  · exact .inr r
/-- the numbered objects: only more of them -/
def Px (ρ ρ' : List Addr) : Prop := ∃ t, ρ' = ρ ++ t
theorem Px.refl (ρ : List Addr) : Px ρ ρ := ⟨[], by simp⟩
theorem Px.trans {a b c : List Addr} : Px a b → Px b c → Px a c
  | ⟨t, h⟩, ⟨u, k⟩ => ⟨t ++ u, by rw [k, h, List.append_assoc]⟩
theorem Px.at {ρ ρ' : List Addr} {n : Nat} {a : Addr} : Px ρ ρ' → ρ[n]? = some a → ρ'[n]? = some a
  | ⟨t, h⟩, q => by
    have hn : n < ρ.length := (List.getElem?_eq_some_iff.mp q).1
    rw [h, List.getElem?_append_left hn]; exact q

section
variable {K : Fg} {Z Z' H : Hp} {ρ ρ' : List Addr}
mutual
theorem RD.mono (hz : Le Z Z') (hp : Px ρ ρ') : ∀ (x : D) (v : V), RD K Z ρ x v → RD K Z' ρ' x v
  | .non, v, h => by unfold RD at h ⊢; exact h
  | .bl b, v, h => by unfold RD at h ⊢; exact h
  | .int i, v, h => by unfold RD at h ⊢; exact h
  | .str x, v, h => by unfold RD at h ⊢; exact h
  | .ty n, v, h => by unfold RD at h ⊢; exact h
  | .tup xs, v, h => by
    unfold RD at h ⊢; obtain ⟨a, vs, e, s, r⟩ := h
    exact ⟨a, vs, e, hz.sqT s, RDs.mono hz hp xs vs r⟩
  | .lst xs, v, h => by
    unfold RD at h ⊢; obtain ⟨a, vs, e, s, r⟩ := h
    exact ⟨a, vs, e, hz _ _ s, RDs.mono hz hp xs vs r⟩
  | .scr ns, v, h => by
    unfold RD at h ⊢; obtain ⟨a, e, s⟩ := h
    exact ⟨a, e, hz.sqL s⟩
  | .dct xs, v, h => by
    unfold RD at h ⊢; obtain ⟨a, vs, e, s, r⟩ := h
    exact ⟨a, vs, e, hz _ _ s, RDk.mono hz hp xs vs r⟩
  | .ref n, v, h => by
    unfold RD at h ⊢; obtain ⟨a, e, q⟩ := h
    exact ⟨a, hp.at e, q⟩
theorem RDs.mono (hz : Le Z Z') (hp : Px ρ ρ') : ∀ (xs : List D) (vs : List V), RDs K Z ρ xs vs → RDs K Z' ρ' xs vs
  | [], vs, h => by unfold RDs at h ⊢; exact h
  | x :: xs, vs, h => by
    unfold RDs at h ⊢; obtain ⟨v, r, e, p, q⟩ := h
    exact ⟨v, r, e, RD.mono hz hp x v p, RDs.mono hz hp xs r q⟩
theorem RDk.mono (hz : Le Z Z') (hp : Px ρ ρ') : ∀ (xs : List (L2.Key × D)) (vs : List (L2.Key × V)), RDk K Z ρ xs vs → RDk K Z' ρ' xs vs
  | [], vs, h => by unfold RDk at h ⊢; exact h
  | (k, x) :: xs, vs, h => by
    unfold RDk at h ⊢; obtain ⟨v, r, e, p, q⟩ := h
    exact ⟨v, r, e, RD.mono hz hp x v p, RDk.mono hz hp xs r q⟩
end

theorem RDs.length : ∀ {xs : List D} {vs : List V}, RDs K Z ρ xs vs → xs.length = vs.length
  | [], vs, h => by unfold RDs at h; subst h; rfl
  | x :: xs, vs, h => by
    unfold RDs at h; obtain ⟨v, r, e, p, q⟩ := h
    rw [e, List.length_cons, List.length_cons, RDs.length q]
theorem RDs.at : ∀ {xs : List D} {vs : List V} {i : Nat} {x : D}, RDs K Z ρ xs vs → xs[i]? = some x → ∃ v, vs[i]? = some v ∧ RD K Z ρ x v
  | [], vs, i, x, h, e => by simp at e
  | y :: xs, vs, 0, x, h, e => by
    unfold RDs at h; obtain ⟨v, r, e', p, q⟩ := h
    simp at e; subst e; exact ⟨v, by rw [e']; rfl, p⟩
  | y :: xs, vs, i + 1, x, h, e => by
    unfold RDs at h; obtain ⟨v, r, e', p, q⟩ := h
    obtain ⟨u, h1, h2⟩ := RDs.at (i := i) q (by simpa using e)
    exact ⟨u, by rw [e']; simpa using h1, h2⟩
theorem RDs.append : ∀ {xs ys : List D} {vs us : List V}, RDs K Z ρ xs vs → RDs K Z ρ ys us → RDs K Z ρ (xs ++ ys) (vs ++ us)
  | [], ys, vs, us, h, k => by unfold RDs at h; subst h; exact k
  | x :: xs, ys, vs, us, h, k => by
    unfold RDs at h; obtain ⟨v, r, e, p, q⟩ := h
    rw [e, List.cons_append, List.cons_append]; unfold RDs
    exact ⟨v, r ++ us, rfl, p, RDs.append q k⟩
theorem RDs.drop : ∀ (n : Nat) {xs : List D} {vs : List V}, RDs K Z ρ xs vs → RDs K Z ρ (xs.drop n) (vs.drop n)
  | 0, xs, vs, h => h
  | n + 1, [], vs, h => by unfold RDs at h; subst h; simp; unfold RDs; rfl
  | n + 1, x :: xs, vs, h => by
    unfold RDs at h; obtain ⟨v, r, e, p, q⟩ := h
    rw [e]; exact RDs.drop n q
theorem RDs.take : ∀ (n : Nat) {xs : List D} {vs : List V}, RDs K Z ρ xs vs → RDs K Z ρ (xs.take n) (vs.take n)
  | 0, xs, vs, h => by simp; unfold RDs; rfl
  | n + 1, [], vs, h => by unfold RDs at h; subst h; simp; unfold RDs; rfl
  | n + 1, x :: xs, vs, h => by
    unfold RDs at h; obtain ⟨v, r, e, p, q⟩ := h
    rw [e, List.take_succ_cons, List.take_succ_cons]; unfold RDs
    exact ⟨v, _, rfl, p, RDs.take n q⟩
theorem RDs.nil : RDs K Z ρ [] [] := by unfold RDs; rfl
theorem RDs.cons {x : D} {xs : List D} {v : V} {vs : List V} (h : RD K Z ρ x v) (k : RDs K Z ρ xs vs) : RDs K Z ρ (x :: xs) (v :: vs) := by
  unfold RDs; exact ⟨v, vs, rfl, h, k⟩
theorem RDs.rep {xs : List D} {vs : List V} (h : RDs K Z ρ xs vs) : ∀ k : Nat, RDs K Z ρ (List.replicate k xs).flatten (List.replicate k vs).flatten
  | 0 => by simp; exact .nil
  | k + 1 => by
    rw [List.replicate_succ, List.replicate_succ, List.flatten_cons, List.flatten_cons]
    exact h.append (RDs.rep h k)
end

/-! ### things -/
section
variable (K : Fg) (cs : Nat → Option Addr) (Z : Hp) (ρ : List Addr) (H : Hp)
inductive RO : O → Option V → List Addr → Prop
  | hole (v : Option V) : RO .hole v []
  | d {x : D} {v : V} : RD K Z ρ x v → RO (.d x) (some v) []
  | lst {xs : List D} {a : Addr} {vs : List V} : H a = some (.lst vs) → RDs K Z ρ xs vs → RO (.lst xs) (some (.ref a)) [a]
  | dct {kvs : List (L2.Key × D)} {a : Addr} {ws : List (L2.Key × V)} : H a = some (.dK ws) → RDk K Z ρ kvs ws → RO (.dct kvs) (some (.ref a)) [a]
  | ins {c : Nat} {C a dx : Addr} {ds : List (Str × D)} {fs : List (Str × V)} : H a = some (.ins C dx fs) → H dx = some (.own a) → cs c = some C → ds.map (·.1) = fs.map (·.1) → RDs K Z ρ (ds.map (·.2)) (fs.map (·.2)) → RO (.ins c ds) (some (.ref a)) [a, dx]
  | opq {o : HO} {a : Addr} : H a = some o → RO (.opq o) (some (.ref a)) [a]
inductive ROs : List Th → List Addr → Prop
  | nil : ROs [] []
  | cons {o : O} {v : Option V} {ts : List Th} {f g : List Addr} : RO K cs Z ρ H o v f → ROs ts g → ROs ((o, v) :: ts) (f ++ g)
end
section
variable {K : Fg} {cs : Nat → Option Addr} {Z Z' H H' : Hp} {ρ ρ' : List Addr}
theorem RO.go (hz : Le Z Z') (hp : Px ρ ρ') : ∀ {o : O} {v : Option V} {f : List Addr}, RO K cs Z ρ H o v f → (∀ a ∈ f, H' a = H a) → RO K cs Z' ρ' H' o v f
  | _, _, _, .hole v, _ => .hole v
  | _, _, _, .d h, _ => .d (RD.mono hz hp _ _ h)
  | _, _, _, .lst e r, k => .lst (by rw [k _ (List.mem_cons_self ..)]; exact e) (RDs.mono hz hp _ _ r)
  | _, _, _, .dct e r, k => .dct (by rw [k _ (List.mem_cons_self ..)]; exact e) (RDk.mono hz hp _ _ r)
  | _, _, _, .ins e e2 c l r, k => .ins (by rw [k _ (List.mem_cons_self ..)]; exact e) (by rw [k _ (List.mem_cons_of_mem _ (List.mem_cons_self ..))]; exact e2) c l (RDs.mono hz hp _ _ r)
  | _, _, _, .opq e, k => .opq (by rw [k _ (List.mem_cons_self ..)]; exact e)
theorem ROs.go (hz : Le Z Z') (hp : Px ρ ρ') : ∀ {ts : List Th} {f : List Addr}, ROs K cs Z ρ H ts f → (∀ a ∈ f, H' a = H a) → ROs K cs Z' ρ' H' ts f
  | _, _, .nil, _ => .nil
  | _, _, .cons h r, k => .cons (RO.go hz hp h fun a m => k a (List.mem_append_left _ m)) (ROs.go hz hp r fun a m => k a (List.mem_append_right _ m))
theorem ROs.perm {ts ts' : List Th} (p : ts.Perm ts') : ∀ {f : List Addr}, ROs K cs Z ρ H ts f → ∃ f', ROs K cs Z ρ H ts' f' ∧ f.Perm f' := by
  induction p with
  | nil => intro f h; exact ⟨f, h, .refl _⟩
  | cons x p ih =>
    intro f h
    cases h with
    | cons a r =>
      obtain ⟨g, h1, h2⟩ := ih r
      exact ⟨_, .cons a h1, h2.append_left _⟩
  | swap x y l =>
    intro f h
    cases h with
    | cons a r =>
      cases r with
      | cons b r =>
        exact ⟨_, .cons b (.cons a r), List.perm_append_comm_assoc _ _ _⟩
  | trans p q ih1 ih2 =>
    intro f h
    obtain ⟨g, h1, h2⟩ := ih1 h
    obtain ⟨g', h3, h4⟩ := ih2 h1
    exact ⟨g', h3, h2.trans h4⟩
theorem ROs.append : ∀ {ts us : List Th} {f g : List Addr}, ROs K cs Z ρ H ts f → ROs K cs Z ρ H us g → ROs K cs Z ρ H (ts ++ us) (f ++ g)
  | _, _, _, _, .nil, k => k
  | _, _, _, _, .cons a r, k => by rw [List.append_assoc]; exact .cons a (ROs.append r k)
theorem ROs.split : ∀ {ts us : List Th} {f : List Addr}, ROs K cs Z ρ H (ts ++ us) f → ∃ g k, ROs K cs Z ρ H ts g ∧ ROs K cs Z ρ H us k ∧ f = g ++ k
  | [], us, f, h => ⟨[], f, .nil, h, rfl⟩
  | t :: ts, us, f, h => by
    cases h with
    | cons a r =>
      obtain ⟨g, k, h1, h2, e⟩ := ROs.split (ts := ts) r
      exact ⟨_, k, .cons a h1, h2, by rw [e, List.append_assoc]⟩

/-- the numbered objects as things -/
def objs (h : List O) (ρ : List Addr) : List Th := h.zip (ρ.map fun a => some (V.ref a))
/-- THE RELATION: reserved cells A, what never changes Z, the numbered objects h at ρ, the things ts -/
structure Rel (K : Fg) (cs : Nat → Option Addr) (A : List Addr) (Z : Hp) (ρ : List Addr) (H : Hp) (h : List O) (ts : List Th) : Prop where
  le : Le Z H
  len : h.length = ρ.length
  own : ∃ F, ROs K cs Z ρ H (objs h ρ ++ ts) F ∧ (A ++ F).Nodup ∧ ∀ a ∈ A ++ F, Z a = none ∧ H a ≠ none

variable {A : List Addr} {h : List O} {ts us : List Th}
theorem Rel.perm' (R : Rel K cs A Z ρ H h ts) {h' : List O} (hl : h'.length = h.length) (p : (objs h ρ ++ ts).Perm (objs h' ρ ++ us)) : Rel K cs A Z ρ H h' us := by
  obtain ⟨le, len, F, r, nd, k⟩ := R
  obtain ⟨F', r', pf⟩ := r.perm p
  refine ⟨le, by rw [hl, len], F', r', ((pf.append_left A).nodup_iff).mp nd, fun a ha => k a ?_⟩
  exact (pf.append_left A).mem_iff.mpr ha
theorem Rel.perm (R : Rel K cs A Z ρ H h ts) (p : ts.Perm us) : Rel K cs A Z ρ H h us := R.perm' rfl (p.append_left _)
theorem Rel.drop {t : Th} (R : Rel K cs A Z ρ H h (t :: ts)) : Rel K cs A Z ρ H h ts := by
  have p : (objs h ρ ++ t :: ts).Perm (t :: (objs h ρ ++ ts)) := List.perm_middle
  obtain ⟨le, len, F, r, nd, k⟩ := R
  obtain ⟨F', r', pf⟩ := r.perm p
  cases r' with
  | cons a r2 =>
    rename_i f g
    have sub : (A ++ g).Sublist (A ++ (f ++ g)) := (List.sublist_append_right f g).append_left A
    refine ⟨le, len, g, r2, (((pf.append_left A).nodup_iff).mp nd).sublist sub, fun a ha => k a ?_⟩
    exact (pf.append_left A).mem_iff.mpr (sub.subset ha)
/-- the first thing, and the others -/
theorem Rel.head {o : O} {v : Option V} (R : Rel K cs A Z ρ H h ((o, v) :: ts)) : ∃ f, RO K cs Z ρ H o v f ∧ ∀ a ∈ f, Z a = none ∧ H a ≠ none := by
  have p : (objs h ρ ++ (o, v) :: ts).Perm ((o, v) :: (objs h ρ ++ ts)) := List.perm_middle
  obtain ⟨le, len, F, r, nd, k⟩ := R
  obtain ⟨F', r', pf⟩ := r.perm p
  cases r' with
  | cons a r =>
    exact ⟨_, a, fun b hb => k b ((pf.append_left A).mem_iff.mpr (List.mem_append_right _ (List.mem_append_left _ hb)))⟩
theorem Rel.dropN (R : Rel K cs A Z ρ H h (us ++ ts)) : Rel K cs A Z ρ H h ts := by
  induction us with
  | nil => exact R
  | cons u us ih => exact ih R.drop
theorem Rel.add0 {o : O} {v : Option V} (R : Rel K cs A Z ρ H h ts) (ho : RO K cs Z ρ H o v []) : Rel K cs A Z ρ H h ((o, v) :: ts) := by
  have p : ((o, v) :: (objs h ρ ++ ts)).Perm (objs h ρ ++ (o, v) :: ts) := List.perm_middle.symm
  obtain ⟨le, len, F, r, nd, k⟩ := R
  have r2 : ROs K cs Z ρ H ((o, v) :: (objs h ρ ++ ts)) F := by
    have := ROs.cons ho r
    rwa [List.nil_append] at this
  obtain ⟨F', r', pf⟩ := r2.perm p
  exact ⟨le, len, F', r', ((pf.append_left A).nodup_iff).mp nd, fun a ha => k a ((pf.append_left A).mem_iff.mpr ha)⟩
theorem Rel.hole (R : Rel K cs A Z ρ H h ts) (v : Option V) : Rel K cs A Z ρ H h ((.hole, v) :: ts) := R.add0 (.hole v)
theorem Rel.dat {x : D} {v : V} (R : Rel K cs A Z ρ H h ts) (r : RD K Z ρ x v) : Rel K cs A Z ρ H h ((.d x, some v) :: ts) := R.add0 (.d r)
theorem Rel.isD {x : D} {v : Option V} (R : Rel K cs A Z ρ H h ((.d x, v) :: ts)) : ∃ u, v = some u ∧ RD K Z ρ x u := by
  obtain ⟨f, r, _⟩ := R.head
  cases r with
  | d r => exact ⟨_, rfl, r⟩
/-- a cell that is reserved is written -/
theorem Rel.set {a : Addr} {o : HO} (R : Rel K cs A Z ρ H h ts) (ha : a ∈ A) : Rel K cs A Z ρ (upd H a o) h ts := by
  obtain ⟨le, len, F, r, nd, k⟩ := R
  have hz : Z a = none := (k a (List.mem_append_left _ ha)).1
  refine ⟨fun b u q => ?_, len, F, r.go (Le.refl _) (Px.refl _) fun b hb => upd_ne ?_, nd, fun b hb => ⟨(k b hb).1, ?_⟩⟩
  · rw [upd_ne (fun e => by rw [e, hz] at q; cases q)]; exact le b u q
  · intro e
    subst e
    exact (List.nodup_append.mp nd).2.2 _ ha _ hb rfl
  · by_cases e : b = a
    · subst e; rw [upd_same]; simp
    · rw [upd_ne e]; exact (k b hb).2
/-- a new cell is reserved -/
theorem Rel.alloc {p : Addr} {o : HO} (R : Rel K cs A Z ρ H h ts) (hp : H p = none) : Rel K cs (p :: A) Z ρ (upd H p o) h ts := by
  obtain ⟨le, len, F, r, nd, k⟩ := R
  have hz : Z p = none := by
    cases q : Z p with
    | none => rfl
    | some u => rw [le _ _ q] at hp; cases hp
  have np : ∀ b ∈ A ++ F, b ≠ p := fun b hb e => by rw [e] at hb; exact (k p hb).2 hp
  refine ⟨fun b u q => ?_, len, F, r.go (Le.refl _) (Px.refl _) fun b hb => upd_ne (np b (List.mem_append_right _ hb)), ?_, fun b hb => ?_⟩
  · rw [upd_ne (fun e => by rw [e, hz] at q; cases q)]; exact le b u q
  · rw [List.cons_append]
    exact List.nodup_cons.mpr ⟨fun hb => np p hb rfl, nd⟩
  · rw [List.cons_append] at hb
    rcases List.mem_cons.mp hb with e | hb
    · subst e; exact ⟨hz, by rw [upd_same]; simp⟩
    · exact ⟨(k b hb).1, by rw [upd_ne (np b hb)]; exact (k b hb).2⟩
/-- a reserved cell never changes any more -/
theorem Rel.retire {a : Addr} {o : HO} (R : Rel K cs (a :: A) Z ρ H h ts) (ha : H a = some o) : Le Z (upd Z a o) ∧ Rel K cs A (upd Z a o) ρ H h ts := by
  obtain ⟨le, len, F, r, nd, k⟩ := R
  have hz : Z a = none := (k a (List.mem_append_left _ (List.mem_cons_self ..))).1
  have lz : Le Z (upd Z a o) := fun b u q => by rw [upd_ne (fun e => by rw [e, hz] at q; cases q)]; exact q
  rw [List.cons_append] at nd
  obtain ⟨na, nd⟩ := List.nodup_cons.mp nd
  refine ⟨lz, fun b u q => ?_, len, F, r.go lz (Px.refl _) fun _ _ => rfl, nd, fun b hb => ?_⟩
  · by_cases e : b = a
    · subst e; rw [upd_same] at q; cases q; exact ha
    · rw [upd_ne e] at q; exact le b u q
  · have e : b ≠ a := fun e => by subst e; exact na hb
    have q := k b (by rw [List.cons_append]; exact List.mem_cons_of_mem _ hb)
    exact ⟨by rw [upd_ne e]; exact q.1, q.2⟩
/-- a reserved cell is let go -/
theorem Rel.unres {a : Addr} (R : Rel K cs (a :: A) Z ρ H h ts) : Rel K cs A Z ρ H h ts := by
  obtain ⟨le, len, F, r, nd, k⟩ := R
  rw [List.cons_append] at nd k
  exact ⟨le, len, F, r, (List.nodup_cons.mp nd).2, fun b hb => k b (List.mem_cons_of_mem _ hb)⟩
theorem Rel.uncons {o : O} {v : Option V} (R : Rel K cs A Z ρ H h ((o, v) :: ts)) : ∃ f, RO K cs Z ρ H o v f ∧ Rel K cs (f ++ A) Z ρ H h ts := by
  have p : (objs h ρ ++ (o, v) :: ts).Perm ((o, v) :: (objs h ρ ++ ts)) := List.perm_middle
  obtain ⟨le, len, F, r, nd, k⟩ := R
  obtain ⟨F', r', pf⟩ := r.perm p
  have nd' := ((pf.append_left A).nodup_iff).mp nd
  have k' : ∀ a ∈ A ++ F', Z a = none ∧ H a ≠ none := fun a ha => k a ((pf.append_left A).mem_iff.mpr ha)
  cases r' with
  | cons x rr =>
    rename_i f g
    have pp : (A ++ (f ++ g)).Perm (f ++ A ++ g) := by
      rw [List.append_assoc]
      exact List.perm_append_comm_assoc _ _ _
    exact ⟨f, x, le, len, g, rr, (pp.nodup_iff).mp nd', fun b hb => k' b (pp.mem_iff.mpr hb)⟩
theorem Rel.recons {o : O} {v : Option V} {f : List Addr} (R : Rel K cs (f ++ A) Z ρ H h ts) (x : RO K cs Z ρ H o v f) : Rel K cs A Z ρ H h ((o, v) :: ts) := by
  obtain ⟨le, len, F, r, nd, k⟩ := R
  have p2 : ((o, v) :: (objs h ρ ++ ts)).Perm (objs h ρ ++ (o, v) :: ts) := List.perm_middle.symm
  obtain ⟨F2, r3, pf2⟩ := (ROs.cons x r).perm p2
  have pp : (f ++ A ++ F).Perm (A ++ F2) := by
    refine List.Perm.trans ?_ (pf2.append_left A)
    rw [List.append_assoc]
    exact List.perm_append_comm_assoc _ _ _
  exact ⟨le, len, F2, r3, (pp.nodup_iff).mp nd, fun b hb => k b (pp.mem_iff.mpr hb)⟩
theorem Rel.openL {xs : List D} {v : Option V} (R : Rel K cs A Z ρ H h ((.lst xs, v) :: ts)) :
    ∃ a vs, v = some (.ref a) ∧ H a = some (.lst vs) ∧ RDs K Z ρ xs vs ∧ Rel K cs (a :: A) Z ρ H h ts := by
  obtain ⟨f, x, R⟩ := R.uncons
  cases x with
  | lst e r => exact ⟨_, _, rfl, e, r, R⟩
theorem Rel.closeL {xs : List D} {a : Addr} {vs : List V} (R : Rel K cs (a :: A) Z ρ H h ts) (e : H a = some (.lst vs)) (r : RDs K Z ρ xs vs) :
    Rel K cs A Z ρ H h ((.lst xs, some (.ref a)) :: ts) := Rel.recons (f := [a]) R (.lst e r)
theorem Rel.openI {c : Nat} {ds : List (Str × D)} {v : Option V} (R : Rel K cs A Z ρ H h ((.ins c ds, v) :: ts)) :
    ∃ a dx C fs, v = some (.ref a) ∧ H a = some (.ins C dx fs) ∧ H dx = some (.own a) ∧ cs c = some C ∧ ds.map (·.1) = fs.map (·.1) ∧ RDs K Z ρ (ds.map (·.2)) (fs.map (·.2)) ∧ Rel K cs (a :: dx :: A) Z ρ H h ts := by
  obtain ⟨f, x, R⟩ := R.uncons
  cases x with
  | ins e e2 hc l rs => exact ⟨_, _, _, _, rfl, e, e2, hc, l, rs, R⟩
theorem Rel.closeI {c : Nat} {ds : List (Str × D)} {a dx C : Addr} {fs : List (Str × V)} (R : Rel K cs (a :: dx :: A) Z ρ H h ts)
    (e : H a = some (.ins C dx fs)) (e2 : H dx = some (.own a)) (hc : cs c = some C) (l : ds.map (·.1) = fs.map (·.1)) (rs : RDs K Z ρ (ds.map (·.2)) (fs.map (·.2))) : Rel K cs A Z ρ H h ((.ins c ds, some (.ref a)) :: ts) :=
  Rel.recons (f := [a, dx]) R (.ins e e2 hc l rs)
theorem Rel.openQ {o : HO} {v : Option V} (R : Rel K cs A Z ρ H h ((.opq o, v) :: ts)) : ∃ a, v = some (.ref a) ∧ H a = some o ∧ Rel K cs (a :: A) Z ρ H h ts := by
  obtain ⟨f, x, R⟩ := R.uncons
  cases x with
  | opq e => exact ⟨_, rfl, e, R⟩
theorem Rel.closeQ {o : HO} {a : Addr} (R : Rel K cs (a :: A) Z ρ H h ts) (e : H a = some o) : Rel K cs A Z ρ H h ((.opq o, some (.ref a)) :: ts) := Rel.recons (f := [a]) R (.opq e)
/-- a thing becomes the next numbered object -/
theorem Rel.publ {o : O} {a : Addr} (R : Rel K cs A Z ρ H h ((o, some (.ref a)) :: ts)) : Rel K cs A Z (ρ ++ [a]) H (h ++ [o]) ts := by
  obtain ⟨le, len, F, r, nd, k⟩ := R
  have e : objs (h ++ [o]) (ρ ++ [a]) = objs h ρ ++ [(o, some (.ref a))] := by
    unfold objs
    rw [List.map_append, List.zip_append (by rw [List.length_map]; exact len)]
    rfl
  refine ⟨le, by rw [List.length_append, List.length_append, len]; rfl, F, ?_, nd, k⟩
  have := r.go (H' := H) (Le.refl Z) (⟨[a], rfl⟩ : Px ρ (ρ ++ [a])) fun _ _ => rfl
  rw [e, List.append_assoc]
  exact this

/-! ### taking a thing out of its place, and putting it back -/
theorem zip_set {α β : Type} : ∀ (xs : List α) (ys : List β) (i : Nat) (a : α) (b : β), ys[i]? = some b → (xs.set i a).zip ys = (xs.zip ys).set i (a, b)
  | [], ys, i, a, b, h => by simp
  | x :: xs, [], i, a, b, h => by simp at h
  | x :: xs, y :: ys, 0, a, b, h => by simp at h; subst h; rfl
  | x :: xs, y :: ys, i + 1, a, b, h => by
    simp only [List.set_cons_succ, List.zip_cons_cons]
    rw [zip_set xs ys i a b (by simpa using h)]
theorem zip_at {α β : Type} : ∀ {xs : List α} {ys : List β} {i : Nat} {a : α} {b : β}, xs[i]? = some a → ys[i]? = some b → (xs.zip ys)[i]? = some (a, b)
  | [], ys, i, a, b, h, k => by simp at h
  | x :: xs, [], i, a, b, h, k => by simp at k
  | x :: xs, y :: ys, 0, a, b, h, k => by simp at h k; subst h; subst k; rfl
  | x :: xs, y :: ys, i + 1, a, b, h, k => by
    simp only [List.zip_cons_cons, List.getElem?_cons_succ]
    exact zip_at (by simpa using h) (by simpa using k)
theorem perm_set {α : Type} : ∀ {l : List α} {i : Nat} {a : α} (b : α), l[i]? = some a → (b :: l).Perm (a :: l.set i b)
  | [], i, a, b, h => by simp at h
  | x :: l, 0, a, b, h => by simp at h; subst h; exact .swap _ _ _
  | x :: l, i + 1, a, b, h => by
    simp only [List.set_cons_succ]
    have := perm_set (l := l) (i := i) b (by simpa using h)
    exact (List.Perm.swap x b l).trans ((this.cons x).trans (.swap a x _))
/-- a slot's thing is taken out, a hole put there, or the other way about -/
theorem Rel.swap {e : List O} {σ : List (Option V)} {i : Nat} {o o' : O} {v : Option V} (R : Rel K cs A Z ρ H h ((o', v) :: (e.zip σ ++ ts))) (he : e[i]? = some o) (hs : σ[i]? = some v) :
    Rel K cs A Z ρ H h ((o, v) :: ((e.set i o').zip σ ++ ts)) := by
  refine R.perm ?_
  rw [zip_set e σ i o' v hs, ← List.cons_append, ← List.cons_append]
  exact (perm_set (o', v) (zip_at he hs)).append_right ts
theorem Rel.take {e : List O} {σ : List (Option V)} {i : Nat} {o : O} {v : Option V} (R : Rel K cs A Z ρ H h (e.zip σ ++ ts)) (he : e[i]? = some o) (hs : σ[i]? = some v) :
    Rel K cs A Z ρ H h ((o, v) :: ((e.set i .hole).zip σ ++ ts)) := (R.hole v).swap he hs
theorem Rel.put {e : List O} {σ : List (Option V)} {i : Nat} {o : O} {v : Option V} (R : Rel K cs A Z ρ H h ((o, v) :: ((e.set i .hole).zip σ ++ ts))) (hi : i < e.length) (hs : σ[i]? = some v) :
    Rel K cs A Z ρ H h ((e.set i o).zip σ ++ ts) := by
  have := R.swap (o := .hole) (i := i) (by rw [List.getElem?_set_self hi]) hs
  rw [List.set_set] at this
  exact this.drop
theorem objs_at {h : List O} {ρ : List Addr} {n : Nat} {o : O} {a : Addr} (h1 : h[n]? = some o) (h2 : ρ[n]? = some a) : (objs h ρ)[n]? = some (o, some (.ref a)) :=
  zip_at h1 (by rw [List.getElem?_map, h2]; rfl)
theorem objs_set {h : List O} {ρ : List Addr} {n : Nat} {o : O} {a : Addr} (h2 : ρ[n]? = some a) : objs (h.set n o) ρ = (objs h ρ).set n (o, some (.ref a)) :=
  zip_set _ _ _ _ _ (by rw [List.getElem?_map, h2]; rfl)
theorem Rel.swapH {n : Nat} {o o' : O} {a : Addr} (R : Rel K cs A Z ρ H h ((o', some (.ref a)) :: ts)) (hn : h[n]? = some o) (ha : ρ[n]? = some a) :
    Rel K cs A Z ρ H (h.set n o') ((o, some (.ref a)) :: ts) := by
  refine R.perm' (by simp) ?_
  rw [objs_set ha]
  have p := perm_set (o', some (V.ref a)) (objs_at hn ha)
  refine List.Perm.trans List.perm_middle ?_
  refine List.Perm.trans ?_ List.perm_middle.symm
  rw [← List.cons_append, ← List.cons_append]
  exact p.append_right ts
theorem Rel.takeH {n : Nat} {o : O} {a : Addr} (R : Rel K cs A Z ρ H h ts) (hn : h[n]? = some o) (ha : ρ[n]? = some a) :
    Rel K cs A Z ρ H (h.set n .hole) ((o, some (.ref a)) :: ts) := (R.hole _).swapH hn ha
theorem Rel.putH {n : Nat} {o : O} {a : Addr} (R : Rel K cs A Z ρ H (h.set n .hole) ((o, some (.ref a)) :: ts)) (hn : n < h.length) (ha : ρ[n]? = some a) :
    Rel K cs A Z ρ H (h.set n o) ts := by
  have := R.swapH (n := n) (o := .hole) (by rw [List.getElem?_set_self hn]) ha
  rw [List.set_set] at this
  exact this.drop

/-! ### freezing -/
theorem Rel.freeze {o : O} {x : D} {v : Option V} (R : Rel K cs A Z ρ H h ((o, v) :: ts)) (e : frz o = some x) : ∃ Z' u, Le Z Z' ∧ v = some u ∧ RD K Z' ρ x u ∧ Rel K cs A Z' ρ H h ts := by
  cases o with
  | hole => simp [frz] at e
  | ins c fs => simp [frz] at e
  | opq o => simp [frz] at e
  | d y =>
    simp [frz] at e; subst e
    obtain ⟨u, e, r⟩ := R.isD
    exact ⟨Z, u, Le.refl _, e, r, R.drop⟩
  | lst xs =>
    simp [frz] at e; subst e
    obtain ⟨a, vs, ev, ha, r, R2⟩ := R.openL
    obtain ⟨l2, R4⟩ := R2.retire ha
    refine ⟨_, _, l2, ev, ?_, R4⟩
    unfold RD
    exact ⟨a, vs, rfl, upd_same, RDs.mono l2 (Px.refl _) _ _ r⟩
  | dct kvs =>
    simp [frz] at e; subst e
    obtain ⟨f, y, R2⟩ := R.uncons
    cases y with
    | dct ha r =>
      obtain ⟨l2, R4⟩ := Rel.retire R2 ha
      refine ⟨_, _, l2, rfl, ?_, R4⟩
      unfold RD
      exact ⟨_, _, rfl, upd_same, RDk.mono l2 (Px.refl _) _ _ r⟩
end
end Lw

set_option Elab.async false
set_option linter.all false
set_option maxRecDepth 100000
set_option maxHeartbeats 4000000
/-! Lw, part 3: the operators by values -/
namespace Lw
open PySem L2

section
variable (K : Fg) (cs : Nat → Option Addr) (Z : Hp) (ρ : List Addr) (H : Hp)
/-- a value is read as a thing -/
def View : O → V → Prop
  | .hole, _ => False
  | .d x, v => RD K Z ρ x v
  | .lst xs, v => ∃ a vs, v = .ref a ∧ H a = some (.lst vs) ∧ RDs K Z ρ xs vs
  | .dct kvs, v => ∃ a ws, v = .ref a ∧ H a = some (.dK ws) ∧ RDk K Z ρ kvs ws
  | .ins c ds, v => ∃ a dx C fs, v = .ref a ∧ H a = some (.ins C dx fs) ∧ cs c = some C ∧ ds.map (·.1) = fs.map (·.1) ∧ RDs K Z ρ (ds.map (·.2)) (fs.map (·.2))
  | .opq o, v => ∃ a, v = .ref a ∧ H a = some o
end
section
variable {K : Fg} {cs : Nat → Option Addr} {A : List Addr} {Z Z' H H' : Hp} {ρ ρ' : List Addr} {h : List O} {ts us : List Th}
theorem RO.view {o : O} {v : V} {f : List Addr} (r : RO K cs Z ρ H o (some v) f) (hn : o ≠ .hole) : View K cs Z ρ H o v := by
  cases r with
  | hole => exact absurd rfl hn
  | d r => exact r
  | lst e r => exact ⟨_, _, rfl, e, r⟩
  | dct e r => exact ⟨_, _, rfl, e, r⟩
  | ins e e2 c l r => exact ⟨_, _, _, _, rfl, e, c, l, r⟩
  | opq e => exact ⟨_, rfl, e⟩
theorem Rel.view {o : O} {v : V} (R : Rel K cs A Z ρ H h ((o, some v) :: ts)) (hn : o ≠ .hole) : View K cs Z ρ H o v :=
  let ⟨_, r, _⟩ := R.head
  r.view hn
theorem View.rd {x : D} {v : V} (w : View K cs Z ρ H (.d x) v) : RD K Z ρ x v := w
/-- a list (frozen or not) of data, read -/
theorem View.lv {o : O} {v : V} {xs : List D} (w : View K cs Z ρ H o v) (hl : Le Z H) (e : lv o = some xs) : ∃ a vs, v = .ref a ∧ H a = some (.lst vs) ∧ RDs K Z ρ xs vs := by
  unfold Lw.lv at e
  split at e
  · cases e
    obtain ⟨a, vs, e, s, r⟩ := (by unfold View RD at w; exact w : ∃ a vs, v = V.ref a ∧ Z a = some (.lst vs) ∧ RDs K Z ρ xs vs)
    exact ⟨a, vs, e, hl _ _ s, r⟩
  · cases e
    exact w
  · cases e
theorem View.sv {o : O} {v : V} {xs : List D} (w : View K cs Z ρ H o v) (hl : Le Z H) (e : sv o = some xs) : ∃ a vs, v = .ref a ∧ (SqL K H a vs ∨ SqT K H a vs) ∧ RDs K Z ρ xs vs := by
  unfold Lw.sv at e
  split at e
  · cases e
    obtain ⟨a, vs, e, s, r⟩ := (by unfold View RD at w; exact w : ∃ a vs, v = V.ref a ∧ SqT K Z a vs ∧ RDs K Z ρ xs vs)
    exact ⟨a, vs, e, .inr (hl.sqT s), r⟩
  · obtain ⟨a, vs, e1, e2, r⟩ := w.lv hl e
    exact ⟨a, vs, e1, .inl (SqL.of e2), r⟩
theorem RD.int {i : Int} {v : V} (r : RD K Z ρ (.int i) v) : v = .int i := by unfold RD at r; exact r
theorem RD.bl {i : Bool} {v : V} (r : RD K Z ρ (.bl i) v) : v = .bl i := by unfold RD at r; exact r
theorem RD.str {i : Str} {v : V} (r : RD K Z ρ (.str i) v) : v = .str i := by unfold RD at r; exact r
theorem RD.non {v : V} (r : RD K Z ρ .non v) : v = .non := by unfold RD at r; exact r
theorem RD.ty {n : String} {v : V} (r : RD K Z ρ (.ty n) v) : v = .ty n := by unfold RD at r; exact r
theorem RD.tup {xs : List D} {v : V} (r : RD K Z ρ (.tup xs) v) : ∃ a vs, v = V.ref a ∧ SqT K Z a vs ∧ RDs K Z ρ xs vs := by unfold RD at r; exact r
theorem RD.lst {xs : List D} {v : V} (r : RD K Z ρ (.lst xs) v) : ∃ a vs, v = V.ref a ∧ Z a = some (.lst vs) ∧ RDs K Z ρ xs vs := by unfold RD at r; exact r
theorem RD.scr {xs : List Int} {v : V} (r : RD K Z ρ (.scr xs) v) : ∃ a, v = V.ref a ∧ SqL K Z a (xs.map V.int) := by unfold RD at r; exact r
theorem rd_int (i : Int) : RD K Z ρ (.int i) (.int i) := by unfold RD; rfl
theorem rd_bl (i : Bool) : RD K Z ρ (.bl i) (.bl i) := by unfold RD; rfl
theorem rd_str (i : Str) : RD K Z ρ (.str i) (.str i) := by unfold RD; rfl
theorem rd_non : RD K Z ρ .non .non := by unfold RD; rfl

/-- a new list of data -/
theorem Rel.newL {p : Addr} {xs : List D} {vs : List V} (R : Rel K cs A Z ρ H h ts) (hp : H p = none) (r : RDs K Z ρ xs vs) : Rel K cs A Z ρ (upd H p (.lst vs)) h ((.lst xs, some (.ref p)) :: ts) :=
  Rel.closeL (R.alloc hp) upd_same r
/-- a new tuple of data -/
theorem Rel.newT {p : Addr} {xs : List D} {vs : List V} (R : Rel K cs A Z ρ H h ts) (hp : H p = none) (r : RDs K Z ρ xs vs) :
    Le Z (upd Z p (.tup vs)) ∧ Rel K cs A (upd Z p (.tup vs)) ρ (upd H p (.tup vs)) h ((.d (.tup xs), some (.ref p)) :: ts) := by
  have R1 : Rel K cs (p :: A) Z ρ (upd H p (.tup vs)) h ts := R.alloc hp
  obtain ⟨l, R2⟩ := R1.retire upd_same
  refine ⟨l, R2.dat ?_⟩
  unfold RD
  exact ⟨p, vs, rfl, .inl (.inl upd_same), RDs.mono l (Px.refl _) _ _ r⟩

/-- what an operation's answer is to be -/
def Ans (K : Fg) (cs : Nat → Option Addr) (Z : Hp) (ρ : List Addr) (h : List O) (ts : List Th) (r : O) (Q : VK) : Prop := ∀ v H' Z', Le Z Z' → Rel K cs [] Z' ρ H' h ((r, some v) :: ts) → Q v H'
variable {Q : VK} {r : O}
theorem Ans.dat {x : D} {v : V} (q : Ans K cs Z ρ h ts (.d x) Q) (R : Rel K cs [] Z ρ H h ts) (w : RD K Z ρ x v) : Q v H := q v H Z (Le.refl _) (R.dat w)
theorem Ans.newL {xs : List D} {vs : List V} {p : Addr} (q : Ans K cs Z ρ h ts (.lst xs) Q) (R : Rel K cs [] Z ρ H h ts) (w : RDs K Z ρ xs vs) (hp : H p = none) : Q (.ref p) (upd H p (.lst vs)) :=
  q _ _ Z (Le.refl _) (R.newL hp w)
theorem Ans.newT {xs : List D} {vs : List V} {p : Addr} (q : Ans K cs Z ρ h ts (.d (.tup xs)) Q) (R : Rel K cs [] Z ρ H h ts) (w : RDs K Z ρ xs vs) (hp : H p = none) : Q (.ref p) (upd H p (.tup vs)) :=
  let ⟨l, R'⟩ := R.newT hp w
  q _ _ _ l R'
end

section
variable {X : Cx} {cs : Nat → Option Addr}
/-- the reading of a two-place operator -/
def rBin (K : Fg) (cs : Nat → Option Addr) (f : O → O → Option O) : R2 := fun x y H Q => ∃ Z ρ h ts a b r, Rel K cs [] Z ρ H h ts ∧ View K cs Z ρ H a x ∧ View K cs Z ρ H b y ∧ f a b = some r ∧ Ans K cs Z ρ h ts r Q
theorem line_le {n : Nat} (h : line n = true) : n ≤ sizeLine := of_decide_eq_true h
theorem small64_ok {i j : Int} (h : (small64 i || small64 j) = true) : CMul i j := by
  unfold small64 at h
  simp only [Bool.or_eq_true, Bool.and_eq_true, decide_eq_true_eq] at h
  exact h
theorem op_badd : OpR X (binaryOp .Add) (rBin X.K cs badd) := by
  intro pins s σ H x y v u Q I rx ry h
  obtain ⟨Z, ρ, hs, ts, a, b, r, R, wa, wb, e, q⟩ := h
  unfold badd at e
  split at e
  · cases e
    exact op_add pins s σ H x y v u Q I rx ry ⟨_, _, wa.rd.int, wb.rd.int, q.dat R (rd_int _)⟩
  · split at e
    · rename_i hl
      cases e
      exact op_add_str pins s σ H x y v u Q I rx ry ⟨_, _, wa.rd.str, wb.rd.str, line_le hl, q.dat R (rd_str _)⟩
    · cases e
  · split at e
    · rename_i xs ys hl
      cases e
      obtain ⟨p, vs, e1, s1, r1⟩ := wa.rd.tup
      obtain ⟨p2, us, e2, s2, r2⟩ := wb.rd.tup
      refine op_catA pins s σ H x y v u Q I rx ry ⟨_, _, vs, us, e1, e2, R.le.sqT s1, R.le.sqT s2, by rw [← r1.length, ← r2.length]; exact line_le hl, fun z => ?_, fun _ z => ?_, fun _ _ p hp => q.newT R (r1.append r2) hp⟩
      · have z2 : xs = [] := List.length_eq_zero_iff.mp (by rw [r1.length, z]; rfl)
        subst z2; rw [← e2]
        exact q.dat R wb
      · have z2 : ys = [] := List.length_eq_zero_iff.mp (by rw [r2.length, z]; rfl)
        subst z2; rw [← e1]
        rw [List.append_nil] at q
        exact q.dat R wa
    · cases e
  · split at e
    · rename_i xs ys h1 h2
      split at e
      · rename_i hl
        cases e
        obtain ⟨p, vs, e1, s1, r1⟩ := wa.lv R.le h1
        obtain ⟨p2, us, e2, s2, r2⟩ := wb.lv R.le h2
        exact op_cat pins s σ H x y v u Q I rx ry ⟨_, _, vs, us, e1, e2, s1, s2, by rw [← r1.length, ← r2.length]; exact line_le hl, fun p hp => q.newL R (r1.append r2) hp⟩
      · cases e
    · cases e
end
end Lw

set_option Elab.async false
set_option linter.all false
set_option maxRecDepth 100000
set_option maxHeartbeats 4000000
namespace Lw
open PySem L2
section
variable {K : Fg} {cs : Nat → Option Addr} {A : List Addr} {Z Z' H H' : Hp} {ρ ρ' : List Addr} {h : List O} {ts us : List Th}
mutual
theorem py_dp (hl : Le Z H) : ∀ {x : D} {p : PyData} {v : V}, x.py = some p → RD K Z ρ x v → Dp K H v p
  | .non, p, v, e, r => by simp [D.py] at e; subst e; rw [r.non]; exact .non
  | .bl b, p, v, e, r => by simp [D.py] at e; subst e; rw [r.bl]; exact .bl b
  | .int b, p, v, e, r => by simp [D.py] at e; subst e; rw [r.int]; exact .int b
  | .str b, p, v, e, r => by simp [D.py] at e; subst e; rw [r.str]; exact .str b
  | .tup xs, p, v, e, r => by
    unfold D.py at e
    cases q : pys xs with
    | none => rw [q] at e; cases e
    | some ys =>
      rw [q] at e; cases e
      obtain ⟨a, vs, e1, s, rs⟩ := r.tup
      subst e1
      exact .tup (hl.sqT s) (pys_dp hl q rs)
  | .lst xs, p, v, e, r => by
    unfold D.py at e
    cases q : pys xs with
    | none => rw [q] at e; cases e
    | some ys =>
      rw [q] at e; cases e
      obtain ⟨a, vs, e1, s, rs⟩ := r.lst
      subst e1
      exact .lst (SqL.of (hl _ _ s)) (pys_dp hl q rs)
  | .ty n, p, v, e, r => by simp [D.py] at e
  | .dct n, p, v, e, r => by simp [D.py] at e
  | .ref n, p, v, e, r => by simp [D.py] at e
  | .scr n, p, v, e, r => by simp [D.py] at e
theorem pys_dp (hl : Le Z H) : ∀ {xs : List D} {ps : List PyData} {vs : List V}, pys xs = some ps → RDs K Z ρ xs vs → DpAll K H vs ps
  | [], ps, vs, e, r => by simp [pys] at e; subst e; unfold RDs at r; subst r; exact .nil
  | x :: xs, ps, vs, e, r => by
    unfold pys at e
    cases q : x.py with
    | none => rw [q] at e; simp at e
    | some y =>
      cases q2 : pys xs with
      | none => rw [q, q2] at e; simp at e
      | some ys =>
        rw [q, q2] at e; simp at e; subst e
        unfold RDs at r; obtain ⟨v, r', e1, r1, r2⟩ := r
        subst e1
        exact .cons (py_dp hl q r1) (pys_dp hl q2 r2)
end
theorem View.dp {o : O} {p : PyData} {v : V} (hl : Le Z H) (w : View K cs Z ρ H o v) (e : o.py = some p) : Dp K H v p := by
  unfold O.py at e
  split at e
  · exact py_dp hl e w
  · rename_i xs
    obtain ⟨a, vs, e1, q1, rs⟩ := w
    subst e1
    unfold D.py at e
    cases q2 : pys xs with
    | none => rw [q2] at e; cases e
    | some ys => rw [q2] at e; cases e; exact .lst (SqL.of q1) (pys_dp hl q2 rs)
  · cases e

/-- a test by values -/
def rCmp (K : Fg) (cs : Nat → Option Addr) (f : O → O → Option Bool) : R2 := fun x y H Q => ∃ Z ρ h ts a b r, Rel K cs [] Z ρ H h ts ∧ View K cs Z ρ H a x ∧ View K cs Z ρ H b y ∧ f a b = some r ∧ Q (.bl r) H
theorem eqo_some {a b : O} {r : Bool} (e : eqg a b = some r) : ∃ p q, a.py = some p ∧ b.py = some q ∧ SeqAt.shaped p = true ∧ SeqAt.shaped q = true ∧ r = PyData.eqv p q := by
  unfold eqg at e
  split at e
  · rename_i p q h1 h2
    split at e
    · rename_i h3
      simp only [Bool.and_eq_true] at h3
      cases e
      exact ⟨p, q, h1, h2, h3.1, h3.2, rfl⟩
    · cases e
  · cases e
theorem scEq_v {a b : O} {r : Bool} {x y : V} (e : scEq a b = some r) (wa : View K cs Z ρ H a x) (wb : View K cs Z ρ H b y) : scal x y = true ∧ r = decide (x = y) := by
  unfold scEq at e
  split at e
  · rw [wa.rd.str, wb.rd.str]; cases e
    refine ⟨rfl, ?_⟩
    rename_i p q
    by_cases h : p = q <;> simp [h]
  · rw [wa.rd.str, wb.rd.non]; cases e; exact ⟨rfl, by simp⟩
  · rw [wa.rd.str, wb.rd.int]; cases e; exact ⟨rfl, by simp⟩
  · rw [wa.rd.str, wb.rd.bl]; cases e; exact ⟨rfl, by simp⟩
  · rw [wa.rd.non, wb.rd.str]; cases e; exact ⟨rfl, by simp⟩
  · rw [wa.rd.int, wb.rd.str]; cases e; exact ⟨rfl, by simp⟩
  · rw [wa.rd.bl, wb.rd.str]; cases e; exact ⟨rfl, by simp⟩
  · cases e
theorem flat_v {x : D} {v : V} (f : flatD x = true) (r : RD K Z ρ x v) : flatV v = true := by
  cases x with
  | non => rw [r.non]; rfl
  | bl b => rw [r.bl]; rfl
  | int b => rw [r.int]; rfl
  | str b => rw [r.str]; rfl
  | _ => cases f
theorem flats_v : ∀ {xs : List D} {vs : List V}, xs.all flatD = true → RDs K Z ρ xs vs → vs.all flatV = true
  | [], vs, f, r => by unfold RDs at r; subst r; rfl
  | x :: xs, vs, f, r => by
    unfold RDs at r; obtain ⟨v, r', e1, r1, r2⟩ := r
    subst e1
    simp only [List.all_cons, Bool.and_eq_true] at f ⊢
    exact ⟨flat_v f.1 r1, flats_v f.2 r2⟩
theorem eq_v {x y : D} {v u : V} (fx : flatD x = true) (fy : flatD y = true) (r : RD K Z ρ x v) (q : RD K Z ρ y u) : eqV u v = eqD y x := by
  cases x <;> cases y <;> first
    | cases fx; done
    | cases fy; done
    | (simp only [RD] at r q; subst r; subst q; rfl)
theorem in_v {x : D} {v : V} (fx : flatD x = true) (r : RD K Z ρ x v) : ∀ {xs : List D} {vs : List V}, xs.all flatD = true → RDs K Z ρ xs vs → inV v vs = xs.any fun y => eqD y x
  | [], vs, f, q => by unfold RDs at q; subst q; rfl
  | y :: xs, vs, f, q => by
    unfold RDs at q; obtain ⟨u, r', e1, r1, r2⟩ := q
    subst e1
    simp only [List.all_cons, Bool.and_eq_true] at f
    have := in_v fx r f.2 r2
    unfold inV at this ⊢
    rw [List.any_cons, List.any_cons, this, eq_v fx f.1 r r1]
end
section
variable {X : Cx} {cs : Nat → Option Addr}
theorem op_ceq (hu : X.A.units + 64 < cLine) : OpR X (compareOp .Eq) (rCmp X.K cs eqo) := by
  intro pins s σ H x y v u Q I rx ry h
  obtain ⟨Z, ρ, hs, ts, a, b, r, R, wa, wb, e, q⟩ := h
  unfold eqo at e
  split at e
  · rename_i r0 e0
    cases e
    obtain ⟨h1, h2⟩ := scEq_v e0 wa wb
    subst h2
    exact op_eq pins s σ H x y v u Q I rx ry ⟨h1, q⟩
  · obtain ⟨p, p2, e1, e2, s1, s2, e3⟩ := eqo_some e
    subst e3
    exact op_eqD hu pins s σ H x y v u Q I rx ry ⟨p, p2, wa.dp R.le e1, wb.dp R.le e2, s1, s2, q⟩
theorem op_cne (hu : X.A.units + 64 < cLine) : OpR X (compareOp .NotEq) (rCmp X.K cs fun a b => (eqo a b).map (!·)) := by
  intro pins s σ H x y v u Q I rx ry h
  obtain ⟨Z, ρ, hs, ts, a, b, r, R, wa, wb, e, q⟩ := h
  cases e0 : eqo a b with
  | none => simp only [e0] at e; cases e
  | some r0 =>
    simp only [e0, Option.map_some, Option.some.injEq] at e
    subst e
    unfold eqo at e0
    split at e0
    · rename_i r1 e1
      cases e0
      obtain ⟨h1, h2⟩ := scEq_v e1 wa wb
      subst h2
      exact op_ne pins s σ H x y v u Q I rx ry ⟨h1, q⟩
    · obtain ⟨p, p2, e1, e2, s1, s2, e3⟩ := eqo_some e0
      subst e3
      exact op_neD hu pins s σ H x y v u Q I rx ry ⟨p, p2, wa.dp R.le e1, wb.dp R.le e2, s1, s2, q⟩
theorem op_clt : OpR X (compareOp .Lt) (rCmp X.K cs (cmpop .lt)) := by
  intro pins s σ H x y v u Q I rx ry h
  obtain ⟨Z, ρ, hs, ts, a, b, r, R, wa, wb, e, q⟩ := h
  unfold cmpop at e
  split at e <;> try (simp at *; done)
  · cases e
    exact op_lt pins s σ H x y v u Q I rx ry ⟨_, _, wa.rd.int, wb.rd.int, q⟩
  · cases e
    exact op_lt_str pins s σ H x y v u Q I rx ry ⟨_, _, wa.rd.str, wb.rd.str, q⟩
theorem op_cle : OpR X (compareOp .LtE) (rCmp X.K cs (cmpop .le)) := by
  intro pins s σ H x y v u Q I rx ry h
  obtain ⟨Z, ρ, hs, ts, a, b, r, R, wa, wb, e, q⟩ := h
  unfold cmpop at e
  split at e <;> try (simp at *; done)
  · cases e
    exact op_le pins s σ H x y v u Q I rx ry ⟨_, _, wa.rd.int, wb.rd.int, q⟩
theorem op_cgt : OpR X (compareOp .Gt) (rCmp X.K cs (cmpop .gt)) := by
  intro pins s σ H x y v u Q I rx ry h
  obtain ⟨Z, ρ, hs, ts, a, b, r, R, wa, wb, e, q⟩ := h
  unfold cmpop at e
  split at e <;> try (simp at *; done)
  · cases e
    exact op_gt pins s σ H x y v u Q I rx ry ⟨_, _, wa.rd.int, wb.rd.int, q⟩
theorem op_cge : OpR X (compareOp .GtE) (rCmp X.K cs (cmpop .ge)) := by
  intro pins s σ H x y v u Q I rx ry h
  obtain ⟨Z, ρ, hs, ts, a, b, r, R, wa, wb, e, q⟩ := h
  unfold cmpop at e
  split at e <;> try (simp at *; done)
  · cases e
    exact op_ge pins s σ H x y v u Q I rx ry ⟨_, _, wa.rd.int, wb.rd.int, q⟩
theorem isin_go {K : Fg} {Z : Hp} {ρ : List Addr} {H : Hp} {a b : O} {r : Bool} {x y : V} (hl : Le Z H) (wa : View K cs Z ρ H a x) (wb : View K cs Z ρ H b y) (e : isinO a b = some r) :
    (∃ i j, x = .str i ∧ y = .str j ∧ r = (!(Builtin.Str.occurrences j i 0 j.length 1).isEmpty)) ∨ (∃ p xs, y = .ref p ∧ (SqL K H p xs ∨ SqT K H p xs) ∧ flatV x = true ∧ xs.all flatV = true ∧ r = inV x xs) ∨
    (∃ d ds, Dp K H x d ∧ Dp K H y (.list ds) ∧ SeqAt.shaped d = true ∧ SeqAt.shaped (.list ds) = true ∧ r = ds.any fun z => PyData.eqv z d) := by
  unfold isinO at e
  split at e
  · cases e
    exact .inl ⟨_, _, wa.rd.str, wb.rd.str, rfl⟩
  · split at e
    · rename_i hf
      cases e
      simp only [Bool.and_eq_true] at hf
      obtain ⟨p, vs, e1, s1, r1⟩ := wb.rd.tup
      exact .inr (.inl ⟨p, vs, e1, .inr (hl.sqT s1), flat_v hf.1 wa, flats_v hf.2 r1, (in_v hf.1 wa hf.2 r1).symm⟩)
    · cases e
  · split at e
    · rename_i xs hx
      split at e
      · rename_i hf
        cases e
        simp only [Bool.and_eq_true] at hf
        obtain ⟨p, vs, e1, s1, r1⟩ := wb.lv hl hx
        exact .inr (.inl ⟨p, vs, e1, .inl (SqL.of s1), flat_v hf.1 wa, flats_v hf.2 r1, (in_v hf.1 wa hf.2 r1).symm⟩)
      · unfold isinG at e
        split at e
        · rename_i d ds h1 h2
          split at e
          · rename_i h3
            simp only [Bool.and_eq_true] at h3
            cases e
            obtain ⟨p, vs, e1, s1, r1⟩ := wb.lv hl hx
            subst e1
            exact .inr (.inr ⟨d, ds, View.dp hl wa h1, .lst (SqL.of s1) (pys_dp hl h2 r1), h3.1, h3.2, rfl⟩)
          · cases e
        · cases e
    · cases e
  · cases e
theorem op_cin (hu : X.A.units + 65 < cLine) : OpR X (compareOp .In) (rCmp X.K cs isinO) := by
  intro pins s σ H x y v u Q I rx ry h
  obtain ⟨Z, ρ, hs, ts, a, b, r, R, wa, wb, e, q⟩ := h
  rcases isin_go R.le wa wb e with ⟨i, j, e1, e2, e3⟩ | ⟨p, xs, e1, e2, e3, e4, e5⟩ | ⟨d, ds, e1, e2, e3, e4, e5⟩
  · subst e3
    exact op_in_str pins s σ H x y v u Q I rx ry ⟨i, j, e1, e2, q⟩
  · subst e5
    exact op_in_seq pins s σ H x y v u Q I rx ry ⟨p, xs, e1, e2, e3, e4, q⟩
  · subst e5
    exact op_inD hu pins s σ H x y v u Q I rx ry ⟨d, ds, e1, e2, e3, e4, q⟩
theorem op_cnotin (hu : X.A.units + 65 < cLine) : OpR X (compareOp .NotIn) (rCmp X.K cs fun a b => (isinO a b).map (!·)) := by
  intro pins s σ H x y v u Q I rx ry h
  obtain ⟨Z, ρ, hs, ts, a, b, r, R, wa, wb, e, q⟩ := h
  cases e0 : isinO a b with
  | none => simp only [e0] at e; cases e
  | some r0 =>
    simp only [e0, Option.map_some, Option.some.injEq] at e
    subst e
    rcases isin_go R.le wa wb e0 with ⟨i, j, e1, e2, e3⟩ | ⟨p, xs, e1, e2, e3, e4, e5⟩ | ⟨d, ds, e1, e2, e3, e4, e5⟩
    · subst e3
      exact op_notin_str pins s σ H x y v u Q I rx ry ⟨i, j, e1, e2, q⟩
    · subst e5
      exact op_notIn_seq pins s σ H x y v u Q I rx ry ⟨p, xs, e1, e2, e3, e4, q⟩
    · subst e5
      exact op_notInD hu pins s σ H x y v u Q I rx ry ⟨d, ds, e1, e2, e3, e4, q⟩
/-- what is None -/
def isN (a : O) : Option Bool := match a with | .hole => none | .d (.ty _) => none | .d .non => some true | _ => some false
theorem isN_v {K : Fg} {Z : Hp} {ρ : List Addr} {H : Hp} {a : O} {r : Bool} {x : V} (wa : View K cs Z ρ H a x) (e : isN a = some r) : decide (x = .non) = r := by
  unfold isN at e
  split at e
  · cases e
  · cases e
  · cases e; rw [wa.rd.non]; rfl
  · rename_i h1 h2 h3
    cases e
    refine decide_eq_false fun z => ?_
    subst z
    cases a with
    | hole => exact h1 rfl
    | lst os => obtain ⟨a, vs, e, _⟩ := wa; cases e
    | dct os => obtain ⟨a, vs, e, _⟩ := wa; cases e
    | ins c ds => obtain ⟨a, vs, _, _, e, _⟩ := wa; cases e
    | opq o => obtain ⟨a, e, _⟩ := wa; cases e
    | d x =>
      cases x with
      | non => exact h3 rfl
      | bl b => have := wa.rd.bl; cases this
      | int b => have := wa.rd.int; cases this
      | str b => have := wa.rd.str; cases this
      | ty b => exact h2 _ rfl
      | tup b => obtain ⟨_, _, e, _⟩ := wa.rd.tup; cases e
      | lst b => obtain ⟨_, _, e, _⟩ := wa.rd.lst; cases e
      | scr b => obtain ⟨_, e, _⟩ := wa.rd.scr; cases e
      | dct b => have q := wa.rd; unfold RD at q; obtain ⟨_, _, e, _⟩ := q; cases e
      | ref b => have q := wa.rd; unfold RD at q; obtain ⟨_, _, e⟩ := q; cases e
theorem isN_cmp {a b : O} {r : Bool} (e : cmpop .isN a b = some r) : (∃ x y, a = .d (.bl x) ∧ b = .d (.bl y) ∧ r = decide (x = y)) ∨ (b = .d .non ∧ isN a = some r) := by
  unfold cmpop at e
  split at e <;> first | (simp at *; done) | skip
  · cases e
    exact .inl ⟨_, _, rfl, rfl, rfl⟩
  · exact .inr ⟨rfl, by unfold isN; exact e⟩
theorem notN_cmp {a b : O} {r : Bool} (e : cmpop .notN a b = some r) : (∃ x y, a = .d (.bl x) ∧ b = .d (.bl y) ∧ r = !decide (x = y)) ∨ (b = .d .non ∧ isN a = some (!r)) := by
  unfold cmpop at e
  split at e <;> first | (simp at *; done) | skip
  · cases e
    exact .inl ⟨_, _, rfl, rfl, rfl⟩
  refine .inr ⟨rfl, ?_⟩
  unfold isN
  split at e <;> first | (cases e; done) | (cases e; rfl) | skip
  all_goals (cases e; split <;> simp_all)
theorem op_cisN : OpR X (compareOp .Is) (rCmp X.K cs (cmpop .isN)) := by
  intro pins s σ H x y v u Q I rx ry h
  obtain ⟨Z, ρ, hs, ts, a, b, r, R, wa, wb, e, q⟩ := h
  rcases isN_cmp e with ⟨p, q', rfl, rfl, rfl⟩ | ⟨e1, e2⟩
  · have e3 := wa.rd.bl
    have e4 := wb.rd.bl
    subst e3
    subst e4
    cases rx
    cases ry
    show wpAny _ _ ((isSame (Value.bool p) (Value.bool q')) >>= fun z => pure (Value.bool z)) _ _ s
    exact wpAny_bind (wpAny_isSame_plain rfl (wpAny_pure (fin_bl I q (by cases p <;> cases q' <;> rfl))))
  subst e1
  exact op_isN pins s σ H x y v u Q I rx ry ⟨wb.rd.non, by rw [isN_v wa e2]; exact q⟩
theorem op_cnotN : OpR X (compareOp .IsNot) (rCmp X.K cs (cmpop .notN)) := by
  intro pins s σ H x y v u Q I rx ry h
  obtain ⟨Z, ρ, hs, ts, a, b, r, R, wa, wb, e, q⟩ := h
  rcases notN_cmp e with ⟨p, q', rfl, rfl, rfl⟩ | ⟨e1, e2⟩
  · have e3 := wa.rd.bl
    have e4 := wb.rd.bl
    subst e3
    subst e4
    cases rx
    cases ry
    show wpAny _ _ ((isSame (Value.bool p) (Value.bool q')) >>= fun z => pure (Value.bool (!z))) _ _ s
    exact wpAny_bind (wpAny_isSame_plain rfl (wpAny_pure (fin_bl I q (by cases p <;> cases q' <;> rfl))))
  subst e1
  exact op_notN pins s σ H x y v u Q I rx ry ⟨wb.rd.non, by rw [isN_v wa e2, Bool.not_not]; exact q⟩

/-! ### items and slices -/
theorem atI_map {α β : Type} (f : α → β) (xs : List α) (i : Int) : atI (xs.map f) i = (atI xs i).map f := by
  unfold atI
  rw [List.length_map]
  cases ixN xs.length i with
  | none => rfl
  | some j => simp [List.getElem?_map]
theorem atI_rel {K : Fg} {Z : Hp} {ρ : List Addr} {xs : List D} {vs : List V} {i : Int} {x : D} (r : RDs K Z ρ xs vs) (e : atI xs i = some x) : ∃ u, atI vs i = some u ∧ RD K Z ρ x u := by
  unfold atI at e ⊢
  rw [← r.length]
  cases q : ixN xs.length i with
  | none => rw [q] at e; cases e
  | some j =>
    rw [q] at e
    exact r.at (i := j) e
/-! dicts, read -/
section
variable {K : Fg} {Z H : Hp} {ρ : List Addr}
theorem View.dv {cs : Nat → Option Addr} {o : O} {v : V} {ks : List (L2.Key × D)} (w : View K cs Z ρ H o v) (hl : Le Z H) (e : dv o = some ks) : ∃ a ws, v = .ref a ∧ H a = some (.dK ws) ∧ RDk K Z ρ ks ws := by
  unfold Lw.dv at e
  split at e
  · cases e
    obtain ⟨a, ws, e, s, r⟩ := (by unfold View RD at w; exact w : ∃ a ws, v = V.ref a ∧ Z a = some (.dK ws) ∧ RDk K Z ρ ks ws)
    exact ⟨a, ws, e, hl _ _ s, r⟩
  · cases e
    exact w
  · cases e
theorem RDk.cons {k : L2.Key} {x : D} {v : V} {ks : List (L2.Key × D)} {ws : List (L2.Key × V)} (r : RD K Z ρ x v) (q : RDk K Z ρ ks ws) : RDk K Z ρ ((k, x) :: ks) ((k, v) :: ws) := by
  unfold RDk; exact ⟨v, ws, rfl, r, q⟩
theorem RDk.nil : RDk K Z ρ [] [] := by unfold RDk; rfl
theorem RDk.at : ∀ {ks : List (L2.Key × D)} {ws : List (L2.Key × V)} (k : L2.Key), RDk K Z ρ ks ws → (valK ks k = none ∧ valV ws k = none) ∨ ∃ x v, valK ks k = some x ∧ valV ws k = some v ∧ RD K Z ρ x v
  | [], ws, k, h => by unfold RDk at h; subst h; exact .inl ⟨rfl, rfl⟩
  | (j, x) :: ks, ws, k, h => by
    unfold RDk at h
    obtain ⟨v, r, rfl, p, q⟩ := h
    by_cases e : j = k
    · subst e
      exact .inr ⟨x, v, by simp [valK], by simp [valV], p⟩
    · have e1 : valK ((j, x) :: ks) k = valK ks k := by simp [valK, List.find?_cons, e]
      have e2 : valV ((j, v) :: r) k = valV r k := by simp [valV, List.find?_cons, e]
      rw [e1, e2]
      exact RDk.at k q
theorem RDk.length : ∀ {ks : List (L2.Key × D)} {ws : List (L2.Key × V)}, RDk K Z ρ ks ws → ks.length = ws.length
  | [], ws, h => by unfold RDk at h; subst h; rfl
  | (j, x) :: ks, ws, h => by
    unfold RDk at h
    obtain ⟨v, r, rfl, p, q⟩ := h
    rw [List.length_cons, List.length_cons, RDk.length q]
theorem RDk.any (k : L2.Key) : ∀ {ks : List (L2.Key × D)} {ws : List (L2.Key × V)}, RDk K Z ρ ks ws → (ks.any fun kv => decide (kv.1 = k)) = ws.any fun kv => decide (kv.1 = k)
  | [], ws, h => by unfold RDk at h; subst h; rfl
  | (j, x) :: ks, ws, h => by
    unfold RDk at h
    obtain ⟨v, r, rfl, p, q⟩ := h
    rw [List.any_cons, List.any_cons, RDk.any k q]
theorem RDk.repl (k : L2.Key) {y : D} {u : V} (ru : RD K Z ρ y u) : ∀ {ks : List (L2.Key × D)} {ws : List (L2.Key × V)}, RDk K Z ρ ks ws → RDk K Z ρ (ks.map fun kv => if kv.1 = k then (kv.1, y) else kv) (ws.map fun kv => if kv.1 = k then (kv.1, u) else kv)
  | [], ws, h => by unfold RDk at h; subst h; exact .nil
  | (j, x) :: ks, ws, h => by
    unfold RDk at h
    obtain ⟨v, r, rfl, p, q⟩ := h
    rw [List.map_cons, List.map_cons]
    by_cases e : j = k
    · rw [if_pos e, if_pos e]; exact .cons ru (RDk.repl k ru q)
    · rw [if_neg e, if_neg e]; exact .cons p (RDk.repl k ru q)
theorem RDk.snoc {k : L2.Key} {y : D} {u : V} (ru : RD K Z ρ y u) : ∀ {ks : List (L2.Key × D)} {ws : List (L2.Key × V)}, RDk K Z ρ ks ws → RDk K Z ρ (ks ++ [(k, y)]) (ws ++ [(k, u)])
  | [], ws, h => by unfold RDk at h; subst h; exact .cons ru .nil
  | (j, x) :: ks, ws, h => by
    unfold RDk at h
    obtain ⟨v, r, rfl, p, q⟩ := h
    exact .cons p (RDk.snoc ru q)
theorem RDk.put {ks : List (L2.Key × D)} {ws : List (L2.Key × V)} (h : RDk K Z ρ ks ws) (k : L2.Key) {y : D} {u : V} (ru : RD K Z ρ y u) : RDk K Z ρ (putD ks k y) (putK ws k u) := by
  unfold putD putK
  rw [h.any k]
  split
  · exact h.repl k ru
  · exact h.snoc ru
theorem key_v {y : D} {v : V} {k : L2.Key} (e : keyOf y = some k) (r : RD K Z ρ y v) : v = kV k := by
  cases y <;> simp only [keyOf] at e <;> cases e
  · rw [r.int]; rfl
  · rw [r.str]; rfl
end
theorem ix_dict (hu : X.A.units + 1 < cLine) : IxR X (fun x y H Q => ∃ a v, x = .ref a ∧ DGet H a y (some v) ∧ Q v H) := by
  intro ve se pins s σ H x y v u Q I rx ry h hs
  obtain ⟨a, w, rfl, g, q⟩ := h
  obtain rfl : v = Value.ref a := rx
  exact PyProof.Rows.tail_any (dict_typeIs I g) PySem.F.slot_dict_getitem.lookup (d_getItem hu I g ry fun w' s3 I3 rw' => ⟨w, H, I3, rw', q⟩) hs
theorem ix_all (hu : X.A.units + 1 < cLine) : IxR X (fun x y H Q => ∃ Z ρ h ts a b r, Rel X.K cs [] Z ρ H h ts ∧ View X.K cs Z ρ H a x ∧ View X.K cs Z ρ H b y ∧ getIdx a b = some r ∧ ∀ v, RD X.K Z ρ r v → Q v H) := by
  intro ve se pins s σ H x y v u Q I rx ry h hsub
  obtain ⟨Z, ρ, hs, ts, a, b, r, R, wa, wb, e, q⟩ := h
  unfold getIdx at e
  split at e
  · obtain ⟨p, vs, e1, s1, r1⟩ := wa.rd.tup
    obtain ⟨w, e2, r2⟩ := atI_rel r1 e
    exact ix_tup ve se pins s σ H x y v u Q I rx ry ⟨p, vs, _, w, e1, wb.rd.int, R.le.sqT s1, e2, q w r2⟩ hsub
  · obtain ⟨p, vs, e1, s1, r1⟩ := wa.rd.lst
    obtain ⟨w, e2, r2⟩ := atI_rel r1 e
    exact ix_list ve se pins s σ H x y v u Q I rx ry ⟨p, vs, _, w, e1, wb.rd.int, SqL.of (R.le _ _ s1), e2, q w r2⟩ hsub
  · obtain ⟨p, vs, e1, s1, r1⟩ := wa
    obtain ⟨w, e2, r2⟩ := atI_rel r1 e
    exact ix_list ve se pins s σ H x y v u Q I rx ry ⟨p, vs, _, w, e1, wb.rd.int, SqL.of s1, e2, q w r2⟩ hsub
  · split at e
    · rename_i z i hl
      cases q1 : atI z.cps.toList i with
      | none => rw [q1] at e; cases e
      | some c =>
        rw [q1, Option.map_some] at e
        cases e
        exact ix_str ve se pins s σ H x y v u Q I rx ry ⟨z, i, c, wa.rd.str, wb.rd.int, line_le hl, q1, q _ (rd_str _)⟩ hsub
    · cases e
  · split at e
    · rename_i ks k h1 h2
      obtain ⟨p, ws, e1, s1, r1⟩ := View.dv wa R.le h1
      have e2 := key_v h2 wb.rd
      rcases r1.at k with ⟨n1, _⟩ | ⟨x1, v1, n1, n2, n3⟩
      · rw [n1] at e; cases e
      · rw [n1] at e; cases e
        exact ix_dict hu ve se pins s σ H x y v u Q I rx ry ⟨p, v1, e1, by rw [e2, ← n2]; exact DGet.k s1, q v1 n3⟩ hsub
    · cases e
  · cases e
theorem cut_rel {K : Fg} {Z : Hp} {ρ : List Addr} {xs : List D} {vs : List V} (r : RDs K Z ρ xs vs) (lo hi : Option Int) : RDs K Z ρ (cutL xs lo hi) (cutV vs lo hi) := by
  unfold cutL cutV
  rw [r.length]
  exact (r.drop _).take _
theorem cut_whole {α : Type} (xs : List α) (lo hi : Option Int) (h : HT.sIx xs.length 0 lo = 0 ∧ HT.sIx xs.length xs.length hi = xs.length) : cutL xs lo hi = xs := by
  unfold cutL
  rw [h.1, h.2]
  simp
theorem intsD {K : Fg} {Z : Hp} {ρ : List Addr} : ∀ ns : List Int, RDs K Z ρ (ns.map D.int) (ns.map V.int)
  | [] => .nil
  | n :: ns => .cons (rd_int n) (intsD ns)
theorem sl_all (lo hi : Option Int) : SlR X (fun x l u H Q => l = lo ∧ u = hi ∧ ∃ Z ρ h ts a r, Rel X.K cs [] Z ρ H h ts ∧ View X.K cs Z ρ H a x ∧ getCut a lo hi = some r ∧ Ans X.K cs Z ρ h ts r Q) := by
  intro pins s σ H x v vl vu lo' hi' sl Q I rx hs pl pu h
  obtain ⟨rfl, rfl, Z, ρ, hh, ts, a, r, R, wa, e, q⟩ := h
  unfold getCut at e
  split at e
  · cases e
    obtain ⟨p, vs, e1, s1, r1⟩ := wa.rd.tup
    refine sl_tupA pins s σ H x v vl vu lo' hi' sl Q I rx hs pl pu ⟨p, vs, e1, R.le.sqT s1, fun z => ?_, fun _ p hp => q.newT R (cut_rel r1 lo' hi') hp⟩
    rw [cut_whole _ lo' hi' (by rw [r1.length]; exact z)] at q
    rw [← e1]
    exact q.dat R wa
  · split at e
    · rename_i hl
      cases e
      exact sl_str pins s σ H x v vl vu lo' hi' sl Q I rx hs pl pu ⟨_, wa.rd.str, line_le hl, q.dat R (rd_str _)⟩
    · cases e
  · cases e
    obtain ⟨p, e1, s1⟩ := wa.rd.scr
    rename_i ns
    refine sl_list pins s σ H x v vl vu lo' hi' sl Q I rx hs pl pu ⟨p, _, e1, R.le.sqL s1, fun p hp => ?_⟩
    have q' : Ans X.K cs Z ρ hh ts (.lst ((cutL ns lo' hi').map D.int)) Q := q
    have e2 : cutV (ns.map V.int) lo' hi' = (cutL ns lo' hi').map V.int := by
      unfold cutV cutL
      rw [List.length_map, List.map_take, List.map_drop]
    rw [e2]
    exact q'.newL R (intsD _) hp
  · split at e
    · rename_i xs hx
      cases e
      obtain ⟨p, vs, e1, s1, r1⟩ := wa.lv R.le hx
      exact sl_list pins s σ H x v vl vu lo' hi' sl Q I rx hs pl pu ⟨p, vs, e1, SqL.of s1, fun p hp => q.newL R (cut_rel r1 lo' hi') hp⟩
    · cases e
end
end Lw

set_option Elab.async false
set_option linter.all false
set_option maxRecDepth 100000
set_option maxHeartbeats 4000000
namespace Lw
open PySem L2
section
variable {K : Fg} {cs : Nat → Option Addr} {A : List Addr} {Z Z' H H' : Hp} {ρ ρ' : List Addr} {h : List O} {ts us : List Th}
/-- built-ins: the arguments as they are read -/
def rBlt (K : Fg) (cs : Nat → Option Addr) (f : List O → Option O) : List V → Hp → VK → Prop := fun vs H Q => ∃ Z ρ h ts os r, Rel K cs [] Z ρ H h ts ∧ Paired (View K cs Z ρ H) os vs ∧ f os = some r ∧ Ans K cs Z ρ h ts r Q
theorem strs_rel : ∀ {xs : List D} {ys : List Str} {vs : List V}, strsOf xs = some ys → RDs K Z ρ xs vs → xs = ys.map D.str ∧ vs = ys.map V.str
  | [], ys, vs, e, r => by simp [strsOf] at e; subst e; unfold RDs at r; subst r; exact ⟨rfl, rfl⟩
  | x :: xs, ys, vs, e, r => by
    cases x with
    | str z =>
      unfold strsOf at e
      cases q : strsOf xs with
      | none => rw [q] at e; cases e
      | some zs =>
        rw [q] at e; cases e
        unfold RDs at r; obtain ⟨v, r', e1, r1, r2⟩ := r
        obtain ⟨h1, h2⟩ := strs_rel q r2
        subst e1
        rw [r1.str, h1, h2]
        exact ⟨rfl, rfl⟩
    | _ => simp [strsOf] at e
theorem ints_rel : ∀ {xs : List D} {ys : List Int} {vs : List V}, intsOf xs = some ys → RDs K Z ρ xs vs → xs = ys.map D.int ∧ vs = ys.map V.int
  | [], ys, vs, e, r => by simp [intsOf] at e; subst e; unfold RDs at r; subst r; exact ⟨rfl, rfl⟩
  | x :: xs, ys, vs, e, r => by
    cases x with
    | int z =>
      unfold intsOf at e
      cases q : intsOf xs with
      | none => rw [q] at e; cases e
      | some zs =>
        rw [q] at e; cases e
        unfold RDs at r; obtain ⟨v, r', e1, r1, r2⟩ := r
        obtain ⟨h1, h2⟩ := ints_rel q r2
        subst e1
        rw [r1.int, h1, h2]
        exact ⟨rfl, rfl⟩
    | _ => simp [intsOf] at e
theorem bls_rel : ∀ {xs : List D} {ys : List Bool} {vs : List V}, blsOf xs = some ys → RDs K Z ρ xs vs → xs = ys.map D.bl ∧ vs = ys.map V.bl
  | [], ys, vs, e, r => by simp [blsOf] at e; subst e; unfold RDs at r; subst r; exact ⟨rfl, rfl⟩
  | x :: xs, ys, vs, e, r => by
    cases x with
    | bl z =>
      unfold blsOf at e
      cases q : blsOf xs with
      | none => rw [q] at e; cases e
      | some zs =>
        rw [q] at e; cases e
        unfold RDs at r; obtain ⟨v, r', e1, r1, r2⟩ := r
        obtain ⟨h1, h2⟩ := bls_rel q r2
        subst e1
        rw [r1.bl, h1, h2]
        exact ⟨rfl, rfl⟩
    | _ => simp [blsOf] at e
theorem strsRD : ∀ ns : List Str, RDs K Z ρ (ns.map D.str) (ns.map V.str)
  | [] => .nil
  | n :: ns => .cons (rd_str n) (strsRD ns)
theorem Paired.one {o : O} {vs : List V} (p : Paired (View K cs Z ρ H) [o] vs) : ∃ v, vs = [v] ∧ View K cs Z ρ H o v := by
  cases p with
  | cons a b => cases b; exact ⟨_, rfl, a⟩
theorem Paired.two {o o' : O} {vs : List V} (p : Paired (View K cs Z ρ H) [o, o'] vs) : ∃ v u, vs = [v, u] ∧ View K cs Z ρ H o v ∧ View K cs Z ρ H o' u := by
  cases p with
  | cons a b =>
    cases b with
    | cons b c => cases c; exact ⟨_, _, rfl, a, b⟩
theorem isi_kit {m n : String} {b : Bool} (e : isiB m n = some b) : kitB m n = some b := by
  unfold isiB at e
  split at e
  · rename_i h
    simp only [Bool.and_eq_true, List.contains_iff_mem] at h
    have h1 := h.1
    have h2 := h.2
    simp only [tyKnown, List.mem_cons, List.not_mem_nil, or_false] at h1 h2
    rcases h1 with rfl | rfl | rfl | rfl | rfl | rfl | rfl <;> rcases h2 with rfl | rfl | rfl | rfl | rfl | rfl | rfl <;> (revert e; cases b <;> decide +kernel)
  · cases e
mutual
theorem py_nod : ∀ {x : D} {p : PyData}, x.py = some p → p.hasDict = false
  | .non, p, e => by simp [D.py] at e; subst e; rfl
  | .bl b, p, e => by simp [D.py] at e; subst e; rfl
  | .int b, p, e => by simp [D.py] at e; subst e; rfl
  | .str b, p, e => by simp [D.py] at e; subst e; rfl
  | .tup xs, p, e => by
    unfold D.py at e
    cases q : pys xs with
    | none => rw [q] at e; cases e
    | some ys => rw [q] at e; cases e; unfold PyData.hasDict; exact pys_nod q
  | .lst xs, p, e => by
    unfold D.py at e
    cases q : pys xs with
    | none => rw [q] at e; cases e
    | some ys => rw [q] at e; cases e; unfold PyData.hasDict; exact pys_nod q
  | .ty n, p, e => by simp [D.py] at e
  | .dct n, p, e => by simp [D.py] at e
  | .ref n, p, e => by simp [D.py] at e
  | .scr n, p, e => by simp [D.py] at e
theorem pys_nod : ∀ {xs : List D} {ps : List PyData}, pys xs = some ps → PyData.hasDictAll ps = false
  | [], ps, e => by simp [pys] at e; subst e; rfl
  | x :: xs, ps, e => by
    unfold pys at e
    cases q : x.py with
    | none => rw [q] at e; simp at e
    | some y =>
      cases q2 : pys xs with
      | none => rw [q, q2] at e; simp at e
      | some ys =>
        rw [q, q2] at e; simp at e; subst e
        unfold PyData.hasDictAll
        rw [py_nod q, pys_nod q2]; rfl
end
theorem opy_nod {o : O} {p : PyData} (e : o.py = some p) : p.hasDict = false := by
  unfold O.py at e
  split at e
  · exact py_nod e
  · exact py_nod e
  · cases e
end
/-! data with dicts, read off the heap -/
section
variable {X : Cx} {pins : List (Addr × Obj)} {σ : L2.St} {H Z : Hp} {ρ : List Addr} {s : Shared}
theorem key_reads {h : Heap} {k : L2.Key} {u : Value} (r : (mixKind X.prog X.w).is k u = true) : Reads h u (keyP k) [] := by
  rcases keyIs_shape r with ⟨i, t, e1, e2⟩ | ⟨x, t, e1, e2⟩
  · subst e1; subst e2; exact .int i t
  · subst e1; subst e2; exact .str x t
mutual
theorem RD.reads (I : L2.Inv X pins σ H s) (le : Le Z H) : ∀ {x : D} {p : PyData} {v : V} {u : Value}, x.pyD = some p → RD X.K Z ρ x v → RelV v u → ∃ as, Reads s.heap u p as ∧ sysModules ∉ as
  | .non, p, v, u, e, r, ru => by simp [D.pyD] at e; subst e; rw [r.non] at ru; cases ru; exact ⟨[], .none, by simp⟩
  | .bl b, p, v, u, e, r, ru => by simp [D.pyD] at e; subst e; rw [r.bl] at ru; cases ru; exact ⟨[], .bool b, by simp⟩
  | .int i, p, v, u, e, r, ru => by simp [D.pyD] at e; subst e; rw [r.int] at ru; obtain ⟨t, rfl⟩ := ru; exact ⟨[], .int i t, by simp⟩
  | .str x, p, v, u, e, r, ru => by simp [D.pyD] at e; subst e; rw [r.str] at ru; obtain ⟨t, rfl⟩ := ru; exact ⟨[], .str x t, by simp⟩
  | .tup xs, p, v, u, e, r, ru => by
    unfold D.pyD at e
    cases q : pysD xs with
    | none => rw [q] at e; cases e
    | some ys =>
      rw [q] at e; cases e
      obtain ⟨a, vs, ev, hs, rs⟩ := r.tup
      subst ev
      cases ru
      obtain ⟨its, rv, ⟨o, ho, hc, n, hd⟩, _⟩ := I.tuple (le.sqT hs)
      obtain ⟨as, hr, hn⟩ := RDs.reads I le q rs rv
      exact ⟨as, .tuple ho hc hd hr, hn⟩
  | .dct ks, p, v, u, e, r, ru => by
    unfold D.pyD at e
    cases q : pykD ks with
    | none => rw [q] at e; cases e
    | some ys =>
      rw [q] at e; cases e
      unfold RD at r
      obtain ⟨a, ws, ev, hs, rs⟩ := r
      subst ev
      cases ru
      obtain ⟨_, hne, vs, kv, o, es, ep, ho, hx, hd, _, hp, _⟩ := dk_of I.hok (le _ _ hs)
      obtain ⟨as, bs, h1, h2, n1, n2⟩ := RDk.reads I le q rs kv hp
      have hne : a ≠ sysModules := by simpa using hne
      refine ⟨_, .dict ho hx.1 hd h1 h2, ?_⟩
      simp only [List.cons_append, List.mem_cons, List.mem_append, not_or]
      exact ⟨fun z => hne z.symm, n1, n2⟩
  | .ty n, p, v, u, e, r, ru => by simp [D.pyD] at e
  | .lst n, p, v, u, e, r, ru => by simp [D.pyD] at e
  | .ref n, p, v, u, e, r, ru => by simp [D.pyD] at e
  | .scr n, p, v, u, e, r, ru => by simp [D.pyD] at e
theorem RDs.reads (I : L2.Inv X pins σ H s) (le : Le Z H) : ∀ {xs : List D} {ps : List PyData} {vs : List V} {us : List Value}, pysD xs = some ps → RDs X.K Z ρ xs vs → Vals vs us → ∃ as, ReadsAll s.heap us ps as ∧ sysModules ∉ as
  | [], ps, vs, us, e, r, ru => by
    simp [pysD] at e; subst e
    unfold RDs at r; subst r
    cases ru
    exact ⟨[], .nil, by simp⟩
  | x :: xs, ps, vs, us, e, r, ru => by
    unfold pysD at e
    cases q : x.pyD with
    | none => rw [q] at e; simp at e
    | some y =>
      cases q2 : pysD xs with
      | none => rw [q, q2] at e; simp at e
      | some ys =>
        rw [q, q2] at e; simp at e; subst e
        unfold RDs at r
        obtain ⟨v, r', rfl, r1, r2⟩ := r
        cases ru with
        | cons a b =>
          obtain ⟨as, h1, n1⟩ := RD.reads I le q r1 a
          obtain ⟨bs, h2, n2⟩ := RDs.reads I le q2 r2 b
          exact ⟨_, .cons h1 h2, by simp only [List.mem_append, not_or]; exact ⟨n1, n2⟩⟩
theorem RDk.reads (I : L2.Inv X pins σ H s) (le : Le Z H) : ∀ {ks : List (L2.Key × D)} {ps : List (PyData × PyData)} {ws : List (L2.Key × V)} {vs : List (L2.Key × Value)} {es : List DictEntry}, pykD ks = some ps → RDk X.K Z ρ ks ws → KV ws vs → Pairs (mixKind X.prog X.w) es vs →
    ∃ as bs, ReadsAll s.heap (es.map (·.key)) (ps.map (·.1)) as ∧ ReadsAll s.heap (es.map (·.val)) (ps.map (·.2)) bs ∧ sysModules ∉ as ∧ sysModules ∉ bs
  | [], ps, ws, vs, es, e, r, kv, pr => by
    simp [pykD] at e; subst e
    unfold RDk at r; subst r
    cases kv
    cases pr
    exact ⟨[], [], .nil, .nil, by simp, by simp⟩
  | (k, x) :: ks, ps, ws, vs, es, e, r, kv, pr => by
    unfold pykD at e
    cases q : x.pyD with
    | none => rw [q] at e; simp at e
    | some y =>
      cases q2 : pykD ks with
      | none => rw [q, q2] at e; simp at e
      | some ys =>
        rw [q, q2] at e; simp at e; subst e
        unfold RDk at r
        obtain ⟨v, r', rfl, r1, r2⟩ := r
        cases kv with
        | cons a b =>
          cases pr with
          | cons c d f =>
            obtain ⟨a1, a2⟩ := a
            dsimp only at a1 a2
            subst a1
            obtain ⟨as, h1, n1⟩ := RD.reads I le q r1 a2
            obtain ⟨bs, cs, h2, h3, n2, n3⟩ := RDk.reads I le q2 r2 b f
            refine ⟨[] ++ bs, as ++ cs, ?_, ?_, n2, by simp only [List.mem_append, not_or]; exact ⟨n1, n3⟩⟩
            · exact .cons (key_reads c) h2
            · exact .cons (by rw [← d] at h1; exact h1) h3
end
end
section
variable {X : Cx} {cs : Nat → Option Addr}
theorem call_rep (hg : X.A.guards = some []) (hu : X.A.units + 80 < cLine) : CallR X (.builtin "repr") (rBlt X.K cs bRep) := by
  intro pins s σ H vs us Q I r h
  obtain ⟨Z, ρ, hs, ts, os, r0, R, p, e, q⟩ := h
  unfold bRep at e
  split at e <;> first | (simp at *; done) | skip
  rename_i a
  obtain ⟨v, e1, wa⟩ := Paired.one p
  subst e1
  obtain ⟨u, e2, ru⟩ := vals1 r
  subst e2
  split at e
  · rename_i d hd
    split at e
    · rename_i hc
      cases e
      simp only [Bool.and_eq_true, decide_eq_true_eq] at hc
      obtain ⟨⟨h1, h2⟩, h3⟩ := hc
      have dp := wa.dp R.le hd
      obtain ⟨as, rd⟩ := Dp.reads I d v u dp ru
      have fin : ∀ h' t tk, (∀ b o, s.heap.get? b = some o → h'.get? b = some o) → EP X pins σ Q (.str d.shown t) { s with heap := h', toks := tk } := fun h' t tk hk =>
        ⟨.str d.shown, H, I.kept hk, ⟨t, rfl⟩, q.dat R (rd_str _)⟩
      have fin0 : ∀ t tk, EP X pins σ Q (.str d.shown t) { s with toks := tk } := fun t tk => ⟨.str d.shown, H, I.tok tk, ⟨t, rfl⟩, q.dat R (rd_str _)⟩
      cases dp with
      | non => cases ru; exact P.repr_of_none (fin0 _ _)
      | bl b => cases ru; exact P.repr_of_bool (fin0 _ _)
      | int i => obtain ⟨t, rfl⟩ := ru; exact P.repr_of_int (of_decide_eq_true h1) (fin0 _ _)
      | str x => obtain ⟨t, rfl⟩ := ru; exact P.repr_of_str (fin0 _ _) (hsz := line_le h2)
      | lst s1 s2 => cases ru; exact repr_of_reads' rd h1 (PyData.noDict_hsm (opy_nod hd)) hg (by omega) (fun _ _ e => e) fin (line_le h2)
      | tup s1 s2 => cases ru; exact repr_of_reads' rd h1 (PyData.noDict_hsm (opy_nod hd)) hg (by omega) (fun _ _ e => e) fin (line_le h2)
    · cases e
  · split at e
    · rename_i d hd
      split at e
      · rename_i hc
        cases e
        simp only [Bool.and_eq_true, decide_eq_true_eq] at hc
        obtain ⟨⟨h1, h2⟩, h3⟩ := hc
        have main : ∀ (Y : Hp) (x : D), Le Y H → x.pyD = some d → RD X.K Y ρ x v → wpAny (model X.prog X.w) X.A (call (.builtin "repr") [u]) (EP X pins σ Q) X.xe s := by
          intro Y x le hd rx
          obtain ⟨as, rd, ns⟩ := RD.reads I le hd rx ru
          have fin : ∀ h' t tk, (∀ b o, s.heap.get? b = some o → h'.get? b = some o) → EP X pins σ Q (.str d.shown t) { s with heap := h', toks := tk } := fun h' t tk hk =>
            ⟨.str d.shown, H, I.kept hk, ⟨t, rfl⟩, q.dat R (rd_str _)⟩
          have fin0 : ∀ t tk, EP X pins σ Q (.str d.shown t) { s with toks := tk } := fun t tk => ⟨.str d.shown, H, I.tok tk, ⟨t, rfl⟩, q.dat R (rd_str _)⟩
          cases rd with
          | none => exact P.repr_of_none (fin0 _ _)
          | bool b => exact P.repr_of_bool (fin0 _ _)
          | int i t => exact P.repr_of_int (of_decide_eq_true h1) (fin0 _ _)
          | str x t => exact P.repr_of_str (fin0 _ _) (hsz := line_le h2)
          | list a1 a2 a3 a4 => exact repr_of_reads' (.list a1 a2 a3 a4) h1 (fun _ => ns) hg (by omega) (fun _ _ e => e) fin (line_le h2)
          | tuple a1 a2 a3 a4 => exact repr_of_reads' (.tuple a1 a2 a3 a4) h1 (fun _ => ns) hg (by omega) (fun _ _ e => e) fin (line_le h2)
          | dict a1 a2 a3 a4 a5 => exact repr_of_reads' (.dict a1 a2 a3 a4 a5) h1 (fun _ => ns) hg (by omega) (fun _ _ e => e) fin (line_le h2)
        unfold O.pyD at hd
        split at hd
        · exact main Z _ R.le hd wa.rd
        · obtain ⟨p, ws, e1, s1, r1⟩ := wa
          refine main H _ (Le.refl _) hd ?_
          unfold RD
          exact ⟨p, ws, e1, s1, RDk.mono R.le (Px.refl _) _ _ r1⟩
        · cases hd
      · cases e
    · cases e
theorem call_len2 : CallR X (.builtin "len") (rBlt X.K cs bLen) := by
  intro pins s σ H vs us Q I r h
  obtain ⟨Z, ρ, hs, ts, os, r0, R, p, e, q⟩ := h
  unfold bLen at e
  split at e <;> first | (simp at *; done) | skip
  rename_i a
  obtain ⟨v, e1, wa⟩ := Paired.one p
  subst e1
  cases e0 : lenOf a with
  | none => simp only [e0] at e; cases e
  | some n =>
    simp only [e0] at e
    cases e
    unfold lenOf at e0
    split at e0
    · cases e0
      obtain ⟨p, vs, e1, s1, r1⟩ := wa.rd.tup
      exact call_len_seq pins s σ H _ us Q I r ⟨p, vs, by rw [e1], .inr (R.le.sqT s1), by rw [← r1.length]; exact q.dat R (rd_int _)⟩
    · cases e0
      obtain ⟨p, vs, e1, s1, r1⟩ := wa.rd.lst
      exact call_len_seq pins s σ H _ us Q I r ⟨p, vs, by rw [e1], .inl (SqL.of (R.le _ _ s1)), by rw [← r1.length]; exact q.dat R (rd_int _)⟩
    · cases e0
      obtain ⟨p, vs, e1, s1, r1⟩ := wa
      exact call_len_seq pins s σ H _ us Q I r ⟨p, vs, by rw [e1], .inl (SqL.of s1), by rw [← r1.length]; exact q.dat R (rd_int _)⟩
    · split at e0
      · rename_i z hl
        cases e0
        exact call_len_str pins s σ H _ us Q I r ⟨z, by rw [wa.rd.str], line_le hl, q.dat R (rd_int _)⟩
      · cases e0
    · cases e0
theorem vals_signs {x : Str} {acc : Array Value} (h : ItemsOf (SignAt x) acc x.cps.size) : Vals (x.cps.toList.map fun c => V.str ⟨#[c]⟩) acc.toList := by
  refine vals_of_at (by rw [List.length_map, Array.length_toList, Array.length_toList]; exact h.1.symm) fun j y u e1 e2 => ?_
  rw [Array.getElem?_toList] at e2
  obtain ⟨c, t, e3, e4⟩ := h.2 j u e2
  rw [List.getElem?_map, Array.getElem?_toList, e3] at e1
  cases e1
  exact ⟨t, e4⟩
theorem signs_rd {K : Fg} {Z : Hp} {ρ : List Addr} : ∀ cps : List Nat, RDs K Z ρ (cps.map fun c => D.str ⟨#[c]⟩) (cps.map fun c => V.str ⟨#[c]⟩)
  | [] => .nil
  | c :: r => .cons (rd_str _) (signs_rd r)
theorem call_lst (hc : X.calm = true) : CallR X (.type "list") (rBlt X.K cs bLst) := by
  intro pins s σ H vs us Q I r h
  obtain ⟨Z, ρ, hs, ts, os, r0, R, p, e, q⟩ := h
  unfold bLst at e
  split at e <;> first | (simp at *; done) | skip
  · rename_i x
    split at e
    · rename_i hx
      have hx : x.length ≤ 1000000 := of_decide_eq_true hx
      have hx2 : x.cps.size ≤ sizeLine := by rw [sizeLine_eq]; have : x.cps.size = x.length := rfl; omega
      cases e
      obtain ⟨v, e1, wa⟩ := Paired.one p
      have ev := wa.rd.str
      subst e1; subst ev
      obtain ⟨u, e2, ru⟩ := vals1 r
      obtain ⟨t, rfl⟩ := ru
      subst e2
      refine PySem.call_list_str (I.ok.hd hc) x t (fun h' tk acc c hk hS ha => ?_) hx2
      have hf : H s.heap.objs.size = none := I.hok.fresh (Nat.le_refl _)
      refine ⟨.ref s.heap.objs.size, _, I.laid (o := .lst (x.cps.toList.map fun c => V.str ⟨#[c]⟩)) hk (Nat.le_refl _) ?_, rfl, q.newL R (signs_rd _) hf⟩
      exact ⟨by rw [List.length_map, Array.length_toList]; exact hx2, acc.toList, c, vals_signs ha, by simpa using hS⟩
    · cases e
  · rename_i a _
    obtain ⟨v, e1, wa⟩ := Paired.one p
    subst e1
    cases e0 : Lw.sv a with
    | none => rw [e0] at e; cases e
    | some xs =>
      rw [e0, Option.map_some] at e
      cases e
      obtain ⟨p, vs, e1, s1, r1⟩ := wa.sv R.le e0
      exact call_list_of pins s σ H _ us Q I r ⟨p, vs, by rw [e1], s1, fun l hl => q.newL R r1 hl⟩
theorem call_tup : CallR X (.type "tuple") (rBlt X.K cs bTup) := by
  intro pins s σ H vs us Q I r h
  obtain ⟨Z, ρ, hs, ts, os, r0, R, p, e, q⟩ := h
  unfold bTup at e
  split at e <;> first | (simp at *; done) | skip
  · cases e
    obtain ⟨v, e1, wa⟩ := Paired.one p
    subst e1
    obtain ⟨p, vs, e1, s1, r1⟩ := wa.rd.tup
    exact call_tuple_of pins s σ H _ us Q I r ⟨p, vs, by rw [e1], .inr ⟨R.le.sqT s1, by rw [← e1]; exact q.dat R wa⟩⟩
  · rename_i a _
    obtain ⟨v, e1, wa⟩ := Paired.one p
    subst e1
    cases e0 : Lw.lv a with
    | none => rw [e0] at e; cases e
    | some xs =>
      rw [e0, Option.map_some] at e
      cases e
      obtain ⟨p, vs, e1, s1, r1⟩ := wa.lv R.le e0
      exact call_tuple_of pins s σ H _ us Q I r ⟨p, vs, by rw [e1], .inl ⟨SqL.of s1, fun l hl => q.newT R r1 hl⟩⟩
theorem ty_of {K : Fg} {Z : Hp} {ρ : List Addr} {H : Hp} {a : O} {m : String} {v : V} (hl : Le Z H) (w : View K cs Z ρ H a v) (e : tyName a = some m) : TyX K H v (.type m) := by
  unfold tyName at e
  split at e <;> first | (cases e; done) | cases e
  · rw [w.rd.non]; exact .base .non
  · rw [w.rd.bl]; exact .base (.bl _)
  · rw [w.rd.int]; exact .base (.int _)
  · rw [w.rd.str]; exact .base (.str _)
  · obtain ⟨p, vs, e1, s1, r1⟩ := w.rd.tup
    subst e1
    rcases s1 with (s1 | ⟨o, s1⟩) | ⟨o, its, n, s1, s2, _⟩
    · exact .base (.tup (hl _ _ s1))
    · exact .fTuple (hl _ _ s1)
    · exact .kTuple s1 s2
  · obtain ⟨p, vs, e1, s1, r1⟩ := w.rd.lst
    subst e1
    exact .base (.lst (hl _ _ s1))
  · obtain ⟨p, vs, e1, s1, r1⟩ := w
    subst e1
    exact .base (.lst s1)
  · have q := w.rd
    unfold RD at q
    obtain ⟨p, ws, e1, s1, r1⟩ := q
    subst e1
    exact .base (.dK (hl _ _ s1))
  · obtain ⟨p, ws, e1, s1, _⟩ := w
    subst e1
    exact .base (.dK s1)
theorem call_isi2 : CallR X (.builtin "isinstance") (rBlt X.K cs bIsi) := by
  intro pins s σ H vs us Q I r h
  obtain ⟨Z, ρ, hs, ts, os, r0, R, p, e, q⟩ := h
  unfold bIsi at e
  split at e <;> first | (simp at *; done) | skip
  rename_i a n
  obtain ⟨v, u, e1, wa, wb⟩ := Paired.two p
  have eu := wb.rd.ty
  subst e1; subst eu
  cases e0 : tyName a with
  | none => simp only [e0] at e; cases e
  | some m =>
    simp only [e0] at e
    cases e2 : isiB m n with
    | none => rw [e2] at e; cases e
    | some b =>
      rw [e2, Option.map_some] at e
      cases e
      exact call_isi pins s σ H _ us Q I r ⟨v, .ty n, .type m, .type n, b, rfl, .ty n, ty_of R.le wa e0, kit_ty (isi_kit e2), q.dat R (rd_bl _)⟩
theorem call_all2 (hc : X.calm = true) : CallR X (.builtin "all") (rBlt X.K cs bAll) := by
  intro pins s σ H vs us Q I r h
  obtain ⟨Z, ρ, hs, ts, os, r0, R, p, e, q⟩ := h
  unfold bAll at e
  split at e <;> first | (simp at *; done) | skip
  rename_i a
  obtain ⟨v, e1, wa⟩ := Paired.one p
  subst e1
  split at e
  · rename_i xs e0
    obtain ⟨p, vs, e1, s1, r1⟩ := wa.lv R.le e0
    cases e2 : blsOf xs with
    | none => rw [e2] at e; cases e
    | some bs =>
      rw [e2, Option.map_some] at e
      cases e
      obtain ⟨h1, h2⟩ := bls_rel e2 r1
      exact cr_all hc pins s σ H _ us Q I r ⟨p, bs, by rw [e1], by rw [← h2]; exact SqL.of s1, q.dat R (rd_bl _)⟩
  · cases e
theorem call_any2 (hc : X.calm = true) : CallR X (.builtin "any") (rBlt X.K cs bAny) := by
  intro pins s σ H vs us Q I r h
  obtain ⟨Z, ρ, hs, ts, os, r0, R, p, e, q⟩ := h
  unfold bAny at e
  split at e <;> first | (simp at *; done) | skip
  rename_i a
  obtain ⟨v, e1, wa⟩ := Paired.one p
  subst e1
  split at e
  · rename_i xs e0
    obtain ⟨p, vs, e1, s1, r1⟩ := wa.lv R.le e0
    cases e2 : blsOf xs with
    | none => rw [e2] at e; cases e
    | some bs =>
      rw [e2, Option.map_some] at e
      cases e
      obtain ⟨h1, h2⟩ := bls_rel e2 r1
      exact cr_any hc pins s σ H _ us Q I r ⟨p, bs, by rw [e1], by rw [← h2]; exact SqL.of s1, q.dat R (rd_bl _)⟩
  · cases e
theorem call_sum2 (hc : X.calm = true) : CallR X (.builtin "sum") (rBlt X.K cs bSum) := by
  intro pins s σ H vs us Q I r h
  obtain ⟨Z, ρ, hs, ts, os, r0, R, p, e, q⟩ := h
  unfold bSum at e
  split at e <;> first | (simp at *; done) | skip
  rename_i a
  obtain ⟨v, e1, wa⟩ := Paired.one p
  subst e1
  split at e
  · rename_i xs e0
    obtain ⟨p, vs, e1, s1, r1⟩ := wa.lv R.le e0
    cases e2 : intsOf xs with
    | none => rw [e2] at e; cases e
    | some bs =>
      rw [e2, Option.map_some] at e
      cases e
      obtain ⟨h1, h2⟩ := ints_rel e2 r1
      exact cr_sum hc pins s σ H _ us Q I r ⟨p, bs, by rw [e1], by rw [← h2]; exact SqL.of s1, q.dat R (rd_int _)⟩
  · cases e
theorem call_min (hc : X.calm = true) : CallR X (.builtin "min") (rBlt X.K cs bMin) := by
  intro pins s σ H vs us Q I r h
  obtain ⟨Z, ρ, hs, ts, os, r0, R, p, e, q⟩ := h
  unfold bMin at e
  split at e <;> first | (simp at *; done) | skip
  cases e
  obtain ⟨v, u, e1, wa, wb⟩ := Paired.two p
  exact call_min2 hc pins s σ H _ us Q I r ⟨_, _, by rw [e1, wa.rd.int, wb.rd.int], q.dat R (rd_int _)⟩
theorem call_max (hc : X.calm = true) : CallR X (.builtin "max") (rBlt X.K cs bMax) := by
  intro pins s σ H vs us Q I r h
  obtain ⟨Z, ρ, hs, ts, os, r0, R, p, e, q⟩ := h
  unfold bMax at e
  split at e <;> first | (simp at *; done) | skip
  cases e
  obtain ⟨v, u, e1, wa, wb⟩ := Paired.two p
  exact call_max2 hc pins s σ H _ us Q I r ⟨_, _, by rw [e1, wa.rd.int, wb.rd.int], q.dat R (rd_int _)⟩
theorem call_abs1 : CallR X (.builtin "abs") (rBlt X.K cs bAbs) := by
  intro pins s σ H vs us Q I r h
  obtain ⟨Z, ρ, hs, ts, os, r0, R, p, e, q⟩ := h
  unfold bAbs at e
  split at e <;> first | (simp at *; done) | skip
  cases e
  obtain ⟨v, e1, wa⟩ := Paired.one p
  exact call_abs pins s σ H _ us Q I r ⟨_, by rw [e1, wa.rd.int], q.dat R (rd_int _)⟩
theorem call_stri : CallR X (.type "str") (rBlt X.K cs bStri) := by
  intro pins s σ H vs us Q I r h
  obtain ⟨Z, ρ, hs, ts, os, r0, R, p, e, q⟩ := h
  unfold bStri at e
  split at e <;> first | (simp at *; done) | skip
  · cases e
    obtain ⟨v, e1, wa⟩ := Paired.one p
    have ev := wa.rd.str
    subst ev
    subst e1
    obtain ⟨u, rfl, t, rfl⟩ := vals1 r
    exact PySem.P.str_of_str ⟨.str _, H, I, ⟨t, rfl⟩, q.dat R (rd_str _)⟩
  split at e
  · rename_i hl
    cases e
    obtain ⟨v, e1, wa⟩ := Paired.one p
    exact call_str_int pins s σ H _ us Q I r ⟨_, by rw [e1, wa.rd.int], of_decide_eq_true hl, q.dat R (rd_str _)⟩
  · cases e

/-! sorted -/
open PyProof.Rows PySem.Spec
theorem int_sorted {ns ms : List Int} (p : ms.Perm ns) (h : ms.Pairwise (· ≤ ·)) : ms = ns.mergeSort fun a b => decide (a ≤ b) := by
  refine List.Perm.eq_of_pairwise (le := fun a b : Int => a ≤ b) ?_ h ?_ ?_
  · intro a b _ _ h1 h2; omega
  · have := List.pairwise_mergeSort (le := fun a b : Int => decide (a ≤ b)) (by intro a b c h1 h2; simp at *; omega) (by intro a b; simp; omega) ns
    exact this.imp fun h => by simpa using h
  · exact p.trans (List.mergeSort_perm ns _).symm
theorem ltCps_iff : ∀ {a b : List Nat}, ltCps a b = true ↔ a < b := by
  intro a
  induction a with
  | nil =>
    intro b
    cases b with
    | nil => simp [ltCps]
    | cons y b => simp [ltCps]
  | cons x a ih =>
    intro b
    cases b with
    | nil => simp [ltCps]
    | cons y b =>
      rw [List.cons_lt_cons_iff]
      unfold ltCps
      rw [← ih]
      by_cases h : x = y
      · subst h; simp
      · simp [h]
theorem rising_le : ∀ {ys : List Str} {p : Str}, risingS p ys = true → (p :: ys).Pairwise fun a b => a.cps.toList ≤ b.cps.toList
  | [], p, h => List.pairwise_singleton _ _
  | y :: ys, p, h => by
    unfold risingS at h
    simp only [Bool.and_eq_true, Bool.not_eq_true'] at h
    have ih := rising_le h.2
    have hpy : p.cps.toList ≤ y.cps.toList := by
      refine List.not_lt.mp fun z => ?_
      rw [ltCps_iff.mpr z] at h
      exact Bool.noConfusion h.1
    refine List.pairwise_cons.mpr ⟨fun z hz => ?_, ih⟩
    rcases List.mem_cons.mp hz with rfl | hz
    · exact hpy
    · exact List.le_trans hpy ((List.pairwise_cons.mp ih).1 z hz)
theorem str_sorted {xs ys : List Str} (p : ys.Perm xs) (h : sortedS ys = true) : ys = xs.mergeSort strLe := by
  have hp : ys.Pairwise fun a b => a.cps.toList ≤ b.cps.toList := by
    cases ys with
    | nil => exact .nil
    | cons y ys => exact rising_le h
  refine List.Perm.eq_of_pairwise (le := fun a b : Str => a.cps.toList ≤ b.cps.toList) ?_ hp ?_ ?_
  · intro a b _ _ h1 h2
    exact Str.ext' (Array.toList_inj.mp (List.le_antisymm h1 h2))
  · have := List.pairwise_mergeSort (le := strLe) (by intro a b c h1 h2; unfold strLe at *; simp only [decide_eq_true_eq] at *; exact List.le_trans h1 h2)
      (by intro a b; unfold strLe; simp only [Bool.or_eq_true, decide_eq_true_eq]; exact List.le_total _ _) xs
    exact this.imp fun h => by unfold strLe at h; simpa using h
  · exact p.trans (List.mergeSort_perm xs _).symm
theorem call_sorted2 : CallR X (.builtin "sorted") (rBlt X.K cs bSorted) := by
  intro pins s σ H vs us Q I r h
  obtain ⟨Z, ρ, hs, ts, os, r0, R, p, e, q⟩ := h
  unfold bSorted at e
  split at e <;> first | (simp at *; done) | skip
  rename_i a
  obtain ⟨v, e1, wa⟩ := Paired.one p
  subst e1
  split at e
  · rename_i xs e0
    obtain ⟨p, vs, e1, s1, r1⟩ := wa.lv R.le e0
    split at e
    · rename_i ys e2
      split at e
      · rename_i hl
        cases e
        obtain ⟨h1, h2⟩ := strs_rel e2 r1
        refine cr_sortedS pins s σ H _ us Q I r ⟨p, ys, by rw [e1], by rw [← h2]; exact SqL.of s1, of_decide_eq_true hl, fun zs l hp hz hl => ?_⟩
        rw [str_sorted hp hz]
        have q' : Ans X.K cs Z ρ hs ts (.lst ((ys.mergeSort strLe).map D.str)) Q := q
        exact q'.newL R (strsRD _) hl
      · cases e
    · split at e
      · rename_i ns e2
        split at e
        · rename_i hl
          cases e
          obtain ⟨h1, h2⟩ := ints_rel e2 r1
          refine cr_sorted pins s σ H _ us Q I r ⟨p, ns, by rw [e1], by rw [← h2]; exact SqL.of s1, of_decide_eq_true hl, fun zs l hp hz hl => ?_⟩
          rw [int_sorted hp hz]
          have q' : Ans X.K cs Z ρ hs ts (.lst ((ns.mergeSort fun a b => decide (a ≤ b)).map D.int)) Q := q
          exact q'.newL R (intsD _) hl
        · cases e
      · cases e
  · cases e
end
end Lw

set_option Elab.async false
set_option linter.all false
set_option maxRecDepth 100000
set_option maxHeartbeats 4000000
namespace Lw
open PySem L2 PyProof.Rows
section
variable {X : Cx} {cs : Nat → Option Addr}
theorem op_bsub : OpR X (binaryOp .Sub) (rBin X.K cs (binop .sub)) := by
  intro pins s σ H x y v u Q I rx ry h
  obtain ⟨Z, ρ, hs, ts, a, b, r, R, wa, wb, e, q⟩ := h
  unfold binop at e
  split at e <;> first | (simp at *; done) | skip
  cases e
  exact op_sub pins s σ H x y v u Q I rx ry ⟨_, _, wa.rd.int, wb.rd.int, q.dat R (rd_int _)⟩
theorem op_bfdiv : OpR X (binaryOp .FloorDiv) (rBin X.K cs (binop .fdiv)) := by
  intro pins s σ H x y v u Q I rx ry h
  obtain ⟨Z, ρ, hs, ts, a, b, r, R, wa, wb, e, q⟩ := h
  unfold binop at e
  split at e <;> first | (simp at *; done) | skip
  split at e
  · rename_i hc
    simp only [Bool.and_eq_true, decide_eq_true_eq] at hc
    cases e
    exact op_fdivN pins s σ H x y v u Q I rx ry ⟨_, _, wa.rd.int, wb.rd.int, hc, q.dat R (rd_int _)⟩
  · cases e
theorem op_bmod : OpR X (binaryOp .Mod) (rBin X.K cs (binop .mod)) := by
  intro pins s σ H x y v u Q I rx ry h
  obtain ⟨Z, ρ, hs, ts, a, b, r, R, wa, wb, e, q⟩ := h
  unfold binop at e
  split at e <;> first | (simp at *; done) | skip
  split at e
  · rename_i hc
    simp only [decide_eq_true_eq] at hc
    cases e
    exact op_modN pins s σ H x y v u Q I rx ry ⟨_, _, wa.rd.int, wb.rd.int, hc, q.dat R (rd_int _)⟩
  · cases e
theorem op_bpow : OpR X (binaryOp .Pow) (rBin X.K cs (binop .pow)) := by
  intro pins s σ H x y v u Q I rx ry h
  obtain ⟨Z, ρ, hs, ts, a, b, r, R, wa, wb, e, q⟩ := h
  unfold binop at e
  split at e <;> first | (simp at *; done) | skip
  split at e
  · rename_i hc
    simp only [Bool.and_eq_true, decide_eq_true_eq] at hc
    cases e
    exact op_pow pins s σ H x y v u Q I rx ry ⟨_, _, wa.rd.int, wb.rd.int, ⟨hc.1.1, hc.1.2, hc.2⟩, q.dat R (rd_int _)⟩
  · cases e

/-! a tuple, a text, many times -/
theorem tup_mul_same (l : Addr) (items : Array Value) (n : Nat) (dd : Option Addr) (sl : Array (Option Value)) (x : Int) (u : Tok) (c0 : (decide (x < -(2 ^ 63)) || decide (x ≥ 2 ^ 63)) = false) (c1 : (items.isEmpty || x == 1) = true) :
    Meets (Builtin.«tuple.__mul__» ⟨[.ref l, .int x u], []⟩) (fun _ R s => s.heap.get? l = some { cls := .type "tuple", dict := dd, data := .seq items n, slots := sl } ∧ R (.ok (.ret (Value.ref l))) s) :=
  .of_wp fun prog w A R s h => by
    obtain ⟨hp, g, d, tk, os⟩ := s
    obtain ⟨hl, h⟩ := h
    have f1 := AutoSeq1.idx_int
    wp_walk using wpAny_loadPart' hl
    repeat (first
      | (refine wpAny_ite_false (decide_eq_false (by rw [c0]; exact Bool.false_ne_true)) ?_; wp_walk using wpAny_loadPart' hl)
      | (refine wpAny_ite_true (decide_eq_true c1) ?_; wp_walk using wpAny_loadPart' hl))
    exact ⟨_, rfl, h⟩
theorem tup_mul_none (l : Addr) (items : Array Value) (n : Nat) (dd : Option Addr) (sl : Array (Option Value)) (x : Int) (u : Tok) (c0 : (decide (x < -(2 ^ 63)) || decide (x ≥ 2 ^ 63)) = false) (c1 : (items.isEmpty || x == 1) = false) (c2 : (decide (x ≤ 0) || items.isEmpty) = true) :
    Meets (Builtin.«tuple.__mul__» ⟨[.ref l, .int x u], []⟩) (fun _ R s => s.heap.get? l = some { cls := .type "tuple", dict := dd, data := .seq items n, slots := sl } ∧
      R (.ok (.ret (Value.ref s.heap.objs.size))) { s with heap := s.heap.push { cls := Value.type "tuple", data := Data.seq #[] }, toks := s.toks }) :=
  .of_wp fun prog w A R s h => by
    obtain ⟨hp, g, d, tk, os⟩ := s
    obtain ⟨hl, h⟩ := h
    have f1 := AutoSeq1.idx_int
    wp_walk using wpAny_loadPart' hl
    repeat (first
      | (refine wpAny_ite_false (decide_eq_false (by rw [c0]; exact Bool.false_ne_true)) ?_; wp_walk using wpAny_loadPart' hl)
      | (refine wpAny_ite_false (decide_eq_false (by rw [c1]; exact Bool.false_ne_true)) ?_; wp_walk using wpAny_loadPart' hl)
      | (refine wpAny_ite_true (decide_eq_true c2) ?_; wp_walk using wpAny_loadPart' hl))
    exact ⟨_, rfl, h⟩
theorem flatten_rep_nil {α : Type} (k : Nat) : (List.replicate k ([] : List α)).flatten = [] := by
  induction k with
  | zero => rfl
  | succ k ih => rw [List.replicate_succ, List.flatten_cons, ih]; rfl
def rRepT2 (K : PySem.W.Frag) : R2 := fun x y H Q => ∃ l k xs, x = .ref l ∧ y = .int k ∧ SqT K H l xs ∧ 0 ≤ k ∧ k ≤ 1000 ∧ xs.length ≤ 1000 ∧
  (xs = [] ∨ k = 1 → Q (.ref l) H) ∧ (xs ≠ [] → k ≠ 1 → ∀ p, H p = none → Q (.ref p) (upd H p (.tup (List.replicate k.toNat xs).flatten)))
theorem op_repT2 : OpR X (binaryOp .Mult) (rRepT2 X.K) := by
  intro pins s σ H x y v u Q I rx ry h
  obtain ⟨l, k, xs, rfl, rfl, hT, h1, h2, hz, q1, q2⟩ := h
  by_cases hne : xs ≠ [] ∧ 2 ≤ k
  · exact op_repT pins s σ H _ _ v u Q I rx ry ⟨l, k, xs, rfl, rfl, hT, hne.1, hne.2, h2, hz, q2 hne.1 (by omega)⟩
  cases rx
  obtain ⟨t, rfl⟩ := ry
  obtain ⟨its, r, ⟨⟨cls, dd, data, sl⟩, ho, hc, n, hd⟩, hs⟩ := I.tuple hT
  simp only at hc hd
  subst hc hd
  have c0 : (decide (k < -(2 ^ 63)) || decide (k ≥ 2 ^ 63)) = false := by
    rw [decide_eq_false (by omega), decide_eq_false (by omega)] <;> rfl
  have he : its.toArray.isEmpty = xs.isEmpty := by
    cases r with
    | nil => rfl
    | cons a b => rfl
  by_cases hs1 : xs = [] ∨ k = 1
  · have c1 : (its.toArray.isEmpty || k == 1) = true := by
      rcases hs1 with e | e
      · rw [he, e]; rfl
      · rw [e]; simp
    exact wpAny_binaryOp_repeat_ref (T := "tuple") (U := "int") (by decide) ⟨_, ho, rfl⟩ (fun s' => typeIs_int s' k t) noFill_tuple_mul F.fills_int_mul F.slot_int_rmul repeat_tuple F.slot_int_index.lookup
      (call_meets F.slot_int_rmul (typeIs_int s k t) F.entry_int_rmul (F.args_int_rmul_2 _ _) (int_rmul_tuple k t l its.toArray n dd sl)
        ⟨ho, rfl, ⟨_, ho, rfl⟩, call_meets F.slot_tuple_mul ⟨_, ho, rfl⟩ F.entry_tuple_mul (F.args_tuple_mul_2 _ _) (tup_mul_same l its.toArray n dd sl k t c0 c1) ⟨ho, ⟨.ref l, H, I, rfl, q1 hs1⟩⟩⟩)
  · have hx : xs ≠ [] := fun e => hs1 (.inl e)
    have hk : k ≠ 1 := fun e => hs1 (.inr e)
    have hk0 : k = 0 := by
      by_cases h3 : 2 ≤ k
      · exact absurd ⟨hx, h3⟩ hne
      · omega
    subst hk0
    have c1 : (its.toArray.isEmpty || (0 : Int) == 1) = false := by
      rw [he]
      cases xs with
      | nil => exact absurd rfl hx
      | cons a b => rfl
    have := q2 hx hk s.heap.objs.size (I.hok.fresh (Nat.le_refl _))
    refine wpAny_binaryOp_repeat_ref (T := "tuple") (U := "int") (by decide) ⟨_, ho, rfl⟩ (fun s' => typeIs_int s' 0 t) noFill_tuple_mul F.fills_int_mul F.slot_int_rmul repeat_tuple F.slot_int_index.lookup
      (call_meets F.slot_int_rmul (typeIs_int s 0 t) F.entry_int_rmul (F.args_int_rmul_2 _ _) (int_rmul_tuple 0 t l its.toArray n dd sl)
        ⟨ho, rfl, ⟨_, ho, rfl⟩, call_meets F.slot_tuple_mul ⟨_, ho, rfl⟩ F.entry_tuple_mul (F.args_tuple_mul_2 _ _) (tup_mul_none l its.toArray n dd sl 0 t c0 c1 rfl) ⟨ho, ?_⟩⟩)
    exact ⟨.ref s.heap.objs.size, _, I.laid (t' := s.toks) (o := .tup []) (fun b ob q => Heap.get?_push_of_some _ q) (Nat.le_refl _) ⟨Nat.zero_le _, [], .nil, IsTup.new _ _⟩, rfl, this⟩
theorem foldl_app (x : Array Nat) : ∀ (k : Nat) (acc : Array Nat), (List.replicate k x).foldl (· ++ ·) acc = acc ++ ((List.replicate k x.toList).flatten).toArray
  | 0, acc => by simp
  | k + 1, acc => by
    rw [List.replicate_succ, List.foldl_cons, foldl_app x k, List.replicate_succ, List.flatten_cons]
    apply Array.ext'
    simp
theorem op_bmul : OpR X (binaryOp .Mult) (rBin X.K cs bmul) := by
  intro pins s σ H x y v u Q I rx ry h
  obtain ⟨Z, ρ, hs, ts, a, b, r, R, wa, wb, e, q⟩ := h
  unfold bmul at e
  split at e
  · split at e
    · rename_i hc
      cases e
      exact op_mul pins s σ H x y v u Q I rx ry ⟨_, _, wa.rd.int, wb.rd.int, small64_ok hc, q.dat R (rd_int _)⟩
    · cases e
  · split at e
    · rename_i xs k hc
      simp only [Bool.and_eq_true, decide_eq_true_eq] at hc
      cases e
      obtain ⟨p, vs, e1, s1, r1⟩ := wa.rd.tup
      refine op_repT2 pins s σ H x y v u Q I rx ry ⟨p, _, vs, e1, wb.rd.int, R.le.sqT s1, hc.1.1, hc.1.2, by rw [← r1.length]; exact hc.2, fun z => ?_, fun _ _ p hp => q.newT R (r1.rep _) hp⟩
      rw [← e1]
      have e2 : (List.replicate k.toNat xs).flatten = xs := by
        rcases z with z | z
        · have : xs = [] := List.length_eq_zero_iff.mp (by rw [r1.length, z]; rfl)
          rw [this, flatten_rep_nil]
        · rw [z]; simp
      rw [e2] at q
      exact q.dat R wa
    · cases e
  · split at e
    · rename_i z k hc
      simp only [Bool.and_eq_true, decide_eq_true_eq] at hc
      obtain ⟨⟨h0, h1⟩, h2⟩ := hc
      cases e
      have ex := wa.rd.str
      have ey := wb.rd.int
      subst ex ey
      obtain ⟨t, rfl⟩ := rx
      obtain ⟨t2, rfl⟩ := ry
      have hr : (decide (k < -(2 ^ 63 : Int)) || decide (k ≥ 2 ^ 63)) = false := by
        rw [decide_eq_false (by omega), decide_eq_false (by omega)] <;> rfl
      have hm : (z.length : Int) * k ≤ 10000 * 1000 := by
        have a1 : (z.length : Int) * k ≤ 10000 * k := Int.mul_le_mul_of_nonneg_right (by omega) h0
        omega
      have hmn : z.length * k.toNat ≤ 10000 * 1000 := Nat.mul_le_mul h2 (by omega)
      have hlen : ((List.replicate k.toNat z.cps.toList).flatten).length = z.length * k.toNat := by
        rw [PyProof.Rows.lm_len_rep_flat, Nat.mul_comm]; rfl
      refine P.mul_str hr (fun h3 _ h4 => ?_) (fun h3 _ => ?_) ?_
      · have h5 : (10000 : Int) ≤ (2 ^ 63 - 1) / k := by
          rw [Int.le_ediv_iff_mul_le (by omega)]
          omega
        omega
      · unfold Builtin.Str.tooLong
        rw [sizeLine_eq]
        exact decide_eq_false (by omega)
      · split
        · have hk : k = 0 := by omega
          subst hk
          exact ⟨by decide, ⟨.str Str.empty, H, I.tok _, ⟨_, rfl⟩, q.dat R (rd_str _)⟩⟩
        · split
          · rename_i h3 h4
            simp only [Bool.or_eq_true, beq_iff_eq] at h4
            have e2 : (⟨(List.replicate k.toNat z.cps.toList).flatten.toArray⟩ : Str) = z := by
              rcases h4 with h4 | h4
              · rw [h4]; simp
              · have : z.cps.toList = [] := List.length_eq_zero_iff.mp (by rw [Array.length_toList]; exact h4)
                rw [this, flatten_rep_nil]
                apply Str.ext'
                apply Array.ext'
                rw [this]
            rw [e2] at q
            exact ⟨.str z, H, I, ⟨_, rfl⟩, q.dat R (rd_str _)⟩
          · have e2 : (List.replicate k.toNat z.cps).foldl (· ++ ·) #[] = ((List.replicate k.toNat z.cps.toList).flatten).toArray := by
              rw [foldl_app]; simp
            refine ⟨?_, ⟨.str ⟨(List.replicate k.toNat z.cps.toList).flatten.toArray⟩, H, I.tok _, ⟨_, by rw [e2]⟩, q.dat R (rd_str _)⟩⟩
            rw [e2]
            show (List.replicate k.toNat z.cps.toList).flatten.toArray.size ≤ sizeLine
            rw [List.size_toArray, hlen, sizeLine_eq]; omega
    · cases e
  · split at e
    · rename_i xs hx
      split at e
      · rename_i hc
        simp only [Bool.and_eq_true, decide_eq_true_eq] at hc
        cases e
        obtain ⟨p, vs, e1, s1, r1⟩ := wa.lv R.le hx
        exact op_rep pins s σ H x y v u Q I rx ry ⟨p, _, vs, e1, wb.rd.int, s1, by omega, by omega, by rw [← r1.length]; exact line_le hc.2, fun p hp => q.newL R (r1.rep _) hp⟩
      · cases e
    · cases e
  · cases e
def opOf : Bop → Operator | .add => .Add | .sub => .Sub | .mul => .Mult | .fdiv => .FloorDiv | .mod => .Mod | .pow => .Pow
theorem op_bin (op : Bop) : OpR X (binaryOp (opOf op)) (rBin X.K cs (binop op)) := by
  cases op with
  | add => exact op_badd
  | sub => exact op_bsub
  | mul => exact op_bmul
  | fdiv => exact op_bfdiv
  | mod => exact op_bmod
  | pow => exact op_bpow
def copOf : Cop → CmpOp | .eq => .Eq | .ne => .NotEq | .lt => .Lt | .le => .LtE | .gt => .Gt | .ge => .GtE | .isin => .In | .notin => .NotIn | .isN => .Is | .notN => .IsNot
theorem op_cmp (hu : X.A.units + 65 < cLine) (op : Cop) : OpR X (compareOp (copOf op)) (rCmp X.K cs (cmpop op)) := by
  cases op with
  | eq => exact op_ceq (by omega)
  | ne => exact op_cne (by omega)
  | lt => exact op_clt
  | le => exact op_cle
  | gt => exact op_cgt
  | ge => exact op_cge
  | isin => exact op_cin hu
  | notin => exact op_cnotin hu
  | isN => exact op_cisN
  | notN => exact op_cnotN
end
end Lw

set_option Elab.async false
set_option linter.all false
set_option maxRecDepth 100000
set_option maxHeartbeats 4000000
/-! Lw, part 4: readings -/
namespace Lw
open PySem L2

def W {α : Type} (r : Res α) (G : α → St → Prop) : Prop := match r with | .ok a s => G a s | _ => False
theorem W.mono {α : Type} {r : Res α} {G G' : α → St → Prop} (h : W r G) (k : ∀ a s, G a s → G' a s) : W r G' := by
  cases r with
  | ok a s => exact k a s h
  | exc c v s => exact h
  | bad => exact h
theorem W_bind {α β : Type} {m : M α} {f : α → M β} {s : St} {G : β → St → Prop} : W (m.bind f s) G ↔ W (m s) fun a s' => W (f a s') G := by
  unfold M.bind
  cases m s <;> exact Iff.rfl
theorem W_ret {α : Type} {a : α} {s : St} {G : α → St → Prop} : W (ret a s) G ↔ G a s := Iff.rfl
theorem W_opt {α : Type} {o : Option α} {s : St} {G : α → St → Prop} (h : W (opt o s) G) : ∃ a, o = some a ∧ G a s := by
  cases o with
  | none => exact h.elim
  | some a => exact ⟨a, rfl, h⟩
theorem W_ok {α : Type} {r : Res α} {G : α → St → Prop} (h : W r G) : ∃ a s, r = .ok a s ∧ G a s := by
  cases r with
  | ok a s => exact ⟨a, s, rfl, h⟩
  | exc c v s => exact h.elim
  | bad => exact h.elim

def hT (x : Hd) (v : V) : List Th := match x with | .tmp o => [(o, some v)] | .slot _ => []
def hV (x : Hd) (σ : L2.St) (v : V) : Prop := match x with | .tmp _ => True | .slot i => σ[i]? = some (some v)
structure In (K : Fg) (cs : Nat → Option Addr) (Z : Hp) (ρ : List Addr) (H : Hp) (st : St) (σ : L2.St) (tm : List Th) : Prop where
  len : st.e.length = σ.length
  rel : Rel K cs [] Z ρ H st.h (st.e.zip σ ++ tm)

section
variable {K : Fg} {cs : Nat → Option Addr} {Z Z' H H' : Hp} {ρ ρ' : List Addr} {st : St} {σ : L2.St} {tm a b : List Th}
theorem In.perm (I : In K cs Z ρ H st σ a) (p : a.Perm b) : In K cs Z ρ H st σ b := ⟨I.len, I.rel.perm (p.append_left _)⟩
theorem In.comm (I : In K cs Z ρ H st σ (a ++ (b ++ tm))) : In K cs Z ρ H st σ (b ++ (a ++ tm)) := I.perm (List.perm_append_comm_assoc _ _ _)
theorem In.drops (I : In K cs Z ρ H st σ (a ++ tm)) : In K cs Z ρ H st σ tm :=
  ⟨I.len, (I.rel.perm (List.perm_append_comm_assoc _ _ _)).dropN⟩
theorem In.drop {t : Th} (I : In K cs Z ρ H st σ (t :: tm)) : In K cs Z ρ H st σ tm := In.drops (a := [t]) I
theorem In.front {t : Th} (I : In K cs Z ρ H st σ (t :: tm)) : Rel K cs [] Z ρ H st.h (t :: (st.e.zip σ ++ tm)) := I.rel.perm List.perm_middle
theorem In.back {t : Th} (hl : st.e.length = σ.length) (R : Rel K cs [] Z ρ H st.h (t :: (st.e.zip σ ++ tm))) : In K cs Z ρ H st σ (t :: tm) := ⟨hl, R.perm List.perm_middle.symm⟩
theorem In.dat {x : D} {v : V} (I : In K cs Z ρ H st σ tm) (r : RD K Z ρ x v) : In K cs Z ρ H st σ ((.d x, some v) :: tm) := .back I.len (I.rel.dat r)
theorem In.rd {x : D} {v : V} (I : In K cs Z ρ H st σ ((.d x, some v) :: tm)) : RD K Z ρ x v := by
  obtain ⟨u, e, r⟩ := I.front.isD
  cases e; exact r
theorem Rel.viewH {A : List Addr} {h : List O} {ts : List Th} {n : Nat} {o : O} {q : Addr} (R : Rel K cs A Z ρ H h ts) (hn : h[n]? = some o) (ha : ρ[n]? = some q) (ho : o ≠ .hole) : View K cs Z ρ H o (.ref q) := (R.takeH hn ha).view ho
theorem Rel.viewE {A : List Addr} {h : List O} {ts : List Th} {e : List O} {i : Nat} {o : O} {v : V} (R : Rel K cs A Z ρ H h (e.zip σ ++ ts)) (he : e[i]? = some o) (hs : σ[i]? = some (some v)) (ho : o ≠ .hole) : View K cs Z ρ H o v := (R.take he hs).view ho
theorem hdOf_ok {o : O} {v : V} {G : O → St → Prop} (h : W (hdOf o st) G) (R : Rel K cs [] Z ρ H st.h ((o, some v) :: tm)) : ∃ p, View K cs Z ρ H p v ∧ G p st := by
  unfold hdOf at h
  split at h
  · rename_i n
    obtain ⟨u, e, r⟩ := R.isD
    cases e
    have r := r
    unfold RD at r
    obtain ⟨q, e1, e2⟩ := r
    subst e2
    split at h
    · exact h.elim
    · rename_i o hne hn
      exact ⟨o, R.drop.viewH hn e1 (fun e => hne (by rw [e])), h⟩
    · exact h.elim
  · exact h.elim
  · rename_i h1 h2
    exact ⟨o, R.view (fun e => h2 e), h⟩
theorem look_ok {x : Hd} {v : V} {G : O → St → Prop} (h : W (look x st) G) (I : In K cs Z ρ H st σ (hT x v ++ tm)) (hv : hV x σ v) : ∃ p, View K cs Z ρ H p v ∧ G p st := by
  cases x with
  | tmp o => exact hdOf_ok (o := o) h (In.front (tm := tm) I)
  | slot i =>
    unfold look at h
    simp only at h
    split at h
    · rename_i o ho
      exact hdOf_ok h (I.rel.take ho hv)
    · exact h.elim
theorem set_len (e : List O) (i : Nat) (o : O) : (e.set i o).length = e.length := List.length_set
/-- a slot's thing is taken out, data is put in its place -/
theorem In.slot_dat {i : Nat} {o : O} {x : D} {v : V} (I : In K cs Z ρ H st σ tm) (he : st.e[i]? = some o) (hs : σ[i]? = some (some v)) (hz : Le Z Z') (R : Rel K cs [] Z' ρ' H st.h ((st.e.set i .hole).zip σ ++ tm)) (r : RD K Z' ρ' x v) :
    In K cs Z' ρ' H { st with e := st.e.set i (.d x) } σ ((.d x, some v) :: tm) := by
  have hi : i < st.e.length := (List.getElem?_eq_some_iff.mp he).1
  have R2 : Rel K cs [] Z' ρ' H st.h ((st.e.set i (.d x)).zip σ ++ tm) := (R.dat r).put hi hs
  exact .back (by show (st.e.set i (.d x)).length = _; rw [set_len]; exact I.len) (R2.dat r)
theorem take_ok {x : Hd} {v : V} {G : O → St → Prop} (h : W (take x st) G) (I : In K cs Z ρ H st σ (hT x v ++ tm)) (hv : hV x σ v) : ∃ Z' o st', Le Z Z' ∧ In K cs Z' ρ H st' σ ((o, some v) :: tm) ∧ G o st' := by
  cases x with
  | tmp o => exact ⟨Z, o, st, Le.refl _, I, h⟩
  | slot i =>
    unfold take at h
    simp only at h
    split at h
    · rename_i o ho
      split at h
      · rename_i y hy
        obtain ⟨Z', u, l, e, r, R⟩ := (I.rel.take ho hv).freeze hy
        cases e
        exact ⟨Z', _, _, l, In.slot_dat (tm := tm) I ho hv l R r, h⟩
      · exact h.elim
    · exact h.elim
theorem asD_ok {o : O} {v : V} {G : D → St → Prop} (h : W (asD o st) G) (I : In K cs Z ρ H st σ ((o, some v) :: tm)) : ∃ Z' x, Le Z Z' ∧ In K cs Z' ρ H st σ tm ∧ RD K Z' ρ x v ∧ G x st := by
  obtain ⟨x, e, g⟩ := W_opt h
  obtain ⟨Z', u, l, e2, r, R⟩ := I.front.freeze e
  cases e2
  exact ⟨Z', x, l, ⟨I.len, R⟩, r, g⟩
theorem truth_ok {x : Hd} {v : V} {G : Bool → St → Prop} (h : W (truth x st) G) (I : In K cs Z ρ H st σ (hT x v ++ tm)) : ∃ b, v = .bl b ∧ In K cs Z ρ H st σ tm ∧ G b st := by
  unfold truth at h
  split at h
  · rename_i b
    exact ⟨b, (In.rd (tm := tm) I).bl, In.drop (tm := tm) I, h⟩
  · exact h.elim
theorem intOf_ok {x : Hd} {v : V} {G : Int → St → Prop} (h : W (intOf x st) G) (I : In K cs Z ρ H st σ (hT x v ++ tm)) : ∃ b, v = .int b ∧ In K cs Z ρ H st σ tm ∧ G b st := by
  unfold intOf at h
  split at h
  · rename_i b
    exact ⟨b, (In.rd (tm := tm) I).int, In.drop (tm := tm) I, h⟩
  · exact h.elim
theorem publ_ok {o : O} {v : V} {G : D → St → Prop} (h : W (publ o st) G) (I : In K cs Z ρ H st σ ((o, some v) :: tm)) : ∃ ρ' x st', Px ρ ρ' ∧ In K cs Z ρ' H st' σ tm ∧ st'.e = st.e ∧ RD K Z ρ' x v ∧ G x st' := by
  have main : (∃ q, v = .ref q) → W (.ok (D.ref st.h.length) (⟨st.e, st.h ++ [o]⟩ : St)) G → ∃ ρ' x st', Px ρ ρ' ∧ In K cs Z ρ' H st' σ tm ∧ st'.e = st.e ∧ RD K Z ρ' x v ∧ G x st' := by
    rintro ⟨q, e⟩ g
    subst e
    refine ⟨ρ ++ [q], .ref st.h.length, ⟨st.e, st.h ++ [o]⟩, ⟨[q], rfl⟩, ⟨I.len, I.front.publ⟩, rfl, ?_, g⟩
    unfold RD
    refine ⟨q, ?_, rfl⟩
    rw [I.rel.len, List.getElem?_append_right (Nat.le_refl _), Nat.sub_self]; rfl
  cases o with
  | hole => exact h.elim
  | d x => exact ⟨ρ, x, st, Px.refl _, I.drop, rfl, I.rd, h⟩
  | lst os => obtain ⟨q, _, e, _⟩ := I.front.view (by simp); exact main ⟨q, e⟩ h
  | dct os => obtain ⟨q, _, e, _, _⟩ := I.front.view (by simp); exact main ⟨q, e⟩ h
  | ins c fs => obtain ⟨q, _, _, _, e, _⟩ := I.front.view (by simp); exact main ⟨q, e⟩ h
  | opq o => obtain ⟨q, e, _⟩ := I.front.view (by simp); exact main ⟨q, e⟩ h
theorem argM_ok {p : Bool} {x : Hd} {v : V} {G : O → St → Prop} (h : W (argM p x st) G) (I : In K cs Z ρ H st σ (hT x v ++ tm)) (hv : hV x σ v) : ∃ Z' ρ' o st', Le Z Z' ∧ Px ρ ρ' ∧ In K cs Z' ρ' H st' σ ((o, some v) :: tm) ∧ G o st' := by
  unfold argM at h
  split at h
  · exact ⟨Z, ρ, _, st, Le.refl _, Px.refl _, I, h⟩
  · rename_i o hne
    split at h
    · obtain ⟨ρ', y, st', l, I', e, r, g⟩ := publ_ok (W_bind.mp h) (show In K cs Z ρ H st σ ((o, some v) :: tm) from I)
      exact ⟨Z, ρ', _, st', Le.refl _, l, I'.dat r, g⟩
    · obtain ⟨Z', y, l, I', r, g⟩ := asD_ok (W_bind.mp h) (show In K cs Z ρ H st σ ((o, some v) :: tm) from I)
      exact ⟨Z', ρ, _, st, l, Px.refl _, I'.dat r, g⟩
  · rename_i i
    have hv : σ[i]? = some (some v) := hv
    split at h
    · dsimp only at h
      split at h
      · rename_i y hy
        have w := I.rel.viewE hy hv (by simp)
        exact ⟨Z, ρ, _, st, Le.refl _, Px.refl _, In.dat (tm := tm) I w, h⟩
      · exact h.elim
      · rename_i o hne1 hne2 ho
        have R := I.rel.take ho hv
        have hq : ∃ q, v = .ref q := by
          have w := R.view hne2
          cases o with
          | hole => exact absurd rfl hne2
          | d x => exact absurd rfl (hne1 x)
          | lst os => obtain ⟨q, _, e, _⟩ := w; exact ⟨q, e⟩
          | dct os => obtain ⟨q, _, e, _, _⟩ := w; exact ⟨q, e⟩
          | ins c fs => obtain ⟨q, _, _, _, e, _⟩ := w; exact ⟨q, e⟩
          | opq o => obtain ⟨q, e, _⟩ := w; exact ⟨q, e⟩
        obtain ⟨q, e⟩ := hq
        subst e
        have R2 := R.publ
        have r : RD K Z (ρ ++ [q]) (.ref st.h.length) (.ref q) := by
          unfold RD
          refine ⟨q, ?_, rfl⟩
          rw [I.rel.len, List.getElem?_append_right (Nat.le_refl _), Nat.sub_self]; rfl
        have hi : i < st.e.length := (List.getElem?_eq_some_iff.mp ho).1
        refine ⟨Z, ρ ++ [q], _, _, Le.refl _, ⟨[q], rfl⟩, ?_, h⟩
        have R3 : Rel K cs [] Z (ρ ++ [q]) H (st.h ++ [o]) ((st.e.set i (.d (.ref st.h.length))).zip σ ++ tm) := (R2.dat r).put hi hv
        exact .back (st := ⟨st.e.set i (.d (.ref st.h.length)), st.h ++ [o]⟩) (by show (st.e.set i _).length = _; rw [set_len]; exact I.len) (R3.dat r)
      · exact h.elim
    · obtain ⟨Z', o, st', l, I', g⟩ := take_ok h I hv
      exact ⟨Z', ρ, o, st', l, Px.refl _, I', g⟩
theorem moveM_ok {x : Hd} {v : V} {G : O → St → Prop} (h : W (moveM x st) G) (I : In K cs Z ρ H st σ (hT x v ++ tm)) (hv : hV x σ v) : ∃ o st', In K cs Z ρ H st' σ ((o, some v) :: tm) ∧ G o st' := by
  cases x with
  | tmp o => exact ⟨o, st, I, h⟩
  | slot i =>
    unfold moveM at h
    simp only at h
    split at h
    · exact h.elim
    · rename_i o hne ho
      exact ⟨o, _, .back (st := { st with e := st.e.set i .hole }) (by show (st.e.set i _).length = _; rw [set_len]; exact I.len) (I.rel.take ho hv), h⟩
    · exact h.elim
end

/-! ### the readings -/
section
variable (cs : Nat → Option Addr) (cl : Cl) (fl : Nat → List Bool) (K : Fg)
/-- an outcome: the wish behind it -/
def Fit (Z : Hp) (ρ : List Addr) (σ : L2.St) (tm : List Th) (r : Res Hd) (Q : VK) : Prop :=
  W r fun x s' => ∀ Z' ρ' v H', Le Z Z' → Px ρ ρ' → In K cs Z' ρ' H' s' σ (hT x v ++ tm) → hV x σ v → Q v H'
def rdE (e : E) : TE := fun σ H Q => ∃ Z ρ st tm, In K cs Z ρ H st σ tm ∧ Fit cs K Z ρ σ tm (hd cl fl e st) Q
def rdT (e : E) : TT := fun σ H Q => ∃ Z ρ st tm, In K cs Z ρ H st σ tm ∧ W ((hd cl fl e).bind truth st) fun b s' => ∀ Z' ρ' H', Le Z Z' → Px ρ ρ' → In K cs Z' ρ' H' s' σ tm → Q b H'
/-- handles of several values -/
def hTs : List Hd → List V → List Th
  | x :: xs, v :: vs => hTs xs vs ++ hT x v
  | _, _ => []
def hVs (σ : L2.St) : List Hd → List V → Prop
  | [], vs => vs = []
  | x :: xs, vs => ∃ v r, vs = v :: r ∧ hV x σ v ∧ hVs σ xs r
def rdH (es : E) : TA := fun σ H Q => ∃ Z ρ st tm, In K cs Z ρ H st σ tm ∧ W (hds cl fl es st) fun xs s' => ∀ Z' ρ' vs H', Le Z Z' → Px ρ ρ' → In K cs Z' ρ' H' s' σ (hTs xs vs ++ tm) → hVs σ xs vs → Q vs H'
def rdO (r : M (List O)) : TA := fun σ H Q => ∃ Z ρ st tm, In K cs Z ρ H st σ tm ∧ W (r st) fun os s' => ∀ Z' ρ' vs H', Le Z Z' → Px ρ ρ' → os.length = vs.length → In K cs Z' ρ' H' s' σ (os.zip (vs.map some) ++ tm) → Q vs H'
def rdP (e : E) : TO := fun σ H Q => ∃ Z ρ st tm, In K cs Z ρ H st σ tm ∧ W (part cl fl e st) fun o s' => ∀ Z' ρ' H', Le Z Z' → Px ρ ρ' → In K cs Z' ρ' H' s' σ tm → Q o H'
end
end Lw

set_option Elab.async false
set_option linter.all false
set_option maxRecDepth 100000
set_option maxHeartbeats 4000000
/-! Lw, part 5: defs as they are called (no list's repr is under way around them) -/
namespace Lw
open PySem L2 PySem.Spec PyProof.Rows

/-- what a call of a def asks and tells -/
def spF (K : Fg) (cs : Nat → Option Addr) (G : List O → List O → CRes) (vs : List V) (H : Hp) (Q : VK) : Prop :=
  ∃ Z ρ h os ts, os.length = vs.length ∧ Rel K cs [] Z ρ H h (os.zip (vs.map some) ++ ts) ∧ match G os h with
    | .ok o h' => ∀ Z' ρ' v H', Le Z Z' → Px ρ ρ' → Rel K cs [] Z' ρ' H' h' ((o, some v) :: ts) → Q v H'
    | _ => False
/-- a def of the text does what G says -/
structure FnV (P : Program) (w : World) (K : Fg) (mg : Str → Option Value) (base : Heap) (cs : Nat → Option Addr) (G : List O → List O → CRes) (k : Nat) (fa : Addr) (fd : FuncData) (ps : List Str) : Prop where
  go : ∀ (A : Around) (outer : List Env) (s : Shared) (H : Hp) (args : Args) (us : List Value) (vs : List V) (Q : VK), Room k A → A.guards = some [] → Env0 P w K mg base A outer s H → BindsTo s fd args (ps.zip us) → Vals vs us → vs.length = ps.length →
    spF K cs G vs H Q → codeAny (model P w) A (.call (.ref fa) args) (CR CX0 outer P w H s Q E0) s
theorem FnV.weak {P : Program} {w : World} {K : Fg} {mg : Str → Option Value} {base : Heap} {cs : Nat → Option Addr} {G : List O → List O → CRes} {j k : Nat} {fa : Addr} {fd : FuncData} {ps : List Str} (F : FnV P w K mg base cs G j fa fd ps) (h : j ≤ k) : FnV P w K mg base cs G k fa fd ps :=
  ⟨fun A outer s H args us vs Q hr => F.go A outer s H args us vs Q (hr.mono h)⟩

section
variable {X : Cx} {cs : Nat → Option Addr} {G : List O → List O → CRes} {k : Nat} {fa C : Addr} {fd : FuncData} {ps : List Str} {x m : Str} {p pos apos : Pos} {e o : Expr} {es : List Expr} {ta : TE} {t : TA}
theorem FnV.val (F : FnV X.prog X.w X.K X.mg X.base cs G k fa fd ps) (hr : Room k X.A) (hg : X.A.guards = some []) (hb : Binds X.K fd ps []) {pins : List (Addr × Obj)} {σ : L2.St} {H : Hp} {s : Shared} {Q : VK} {us : List Value} {vs : List V}
    (I : L2.Inv X pins σ H s) (r : Vals vs us) (hl : vs.length = ps.length) (h : spF X.K cs G vs H Q) : wpAny (model X.prog X.w) X.A (PySem.call (.ref fa) us) (EP X pins σ Q) X.xe s := by
  have b := hb s us I.kIn (by rw [List.append_nil, ← r.length]; exact hl)
  rw [List.append_nil] at b
  refine wpAny_call (codeAny_mono (F.go X.A X.stack s H ⟨us, []⟩ us vs Q hr hg I.env0 b r hl h) fun res s' q => ?_)
  match res, q with
  | .ok (.ret u), q => exact I.after q
/-- f(e, ..) of the text -/
def tCallV (K : Fg) (cs : Nat → Option Addr) (G : List O → List O → CRes) (n : Nat) (t : TA) : TE := fun σ H Q => t σ H fun vs H1 => vs.length = n ∧ spF K cs G vs H1 Q
theorem pe_callV (F : FnV X.prog X.w X.K X.mg X.base cs G k fa fd ps) (hr : Room k X.A) (hu : X.A.guards = some []) (hb : Binds X.K fd ps []) (hg : Gl X x) (hm : X.mg x = some (.ref fa)) (hk : PySem.W.keepIn X.K (.ref fa) = true)
    (ha : PA X (e :: es) t) (hdb : (x == ("__debug__" : Str)) = false) (hs : starEach (e :: es) X.env = (false, eval e X.env) :: starEach es X.env) (hpl : (backTo pos (starEach es X.env)).any (·.1) = false) :
    PE X (.Call (.Name x p) (e :: es) [] pos) (tCallV X.K cs G ps.length t) :=
  ⟨fun pins s σ H Q I h => wpAny_Call_Name_kw (ld_glob I hg hm (PySem.W.callWith_K (h₀ := X.base) I.ok.mod.kin hk
    (thn (ha.run pos pins s σ H _ I h) fun us s1 ⟨vs, H1, I1, r, hl, q⟩ => ⟨I1.kIn, F.val hr hu hb I1 r hl q⟩) hs hpl) hdb)⟩
theorem pe_callV0 (F : FnV X.prog X.w X.K X.mg X.base cs G k fa fd ps) (hr : Room k X.A) (hu : X.A.guards = some []) (hb : Binds X.K fd ps []) (hg : Gl X x) (hm : X.mg x = some (.ref fa)) (hk : PySem.W.keepIn X.K (.ref fa) = true)
    (hdb : (x == ("__debug__" : Str)) = false) : PE X (.Call (.Name x p) [] [] pos) (tCallV X.K cs G ps.length tNil) :=
  ⟨fun pins s σ H Q I h => wpAny_Call_Name_kw (ld_glob I hg hm (PySem.W.callWith_K0 I.kIn hk (F.val (us := []) hr hu hb I .nil h.1 h.2)) hdb)⟩
/-- with defaults behind the values -/
theorem FnV.valD (F : FnV X.prog X.w X.K X.mg X.base cs G k fa fd ps) (hr : Room k X.A) (hg : X.A.guards = some []) {dvs : List V} {ds : List Value} (hd : Vals dvs ds) (hb : Binds X.K fd ps ds) {pins : List (Addr × Obj)} {σ : L2.St} {H : Hp} {s : Shared} {Q : VK} {us : List Value} {vs : List V}
    (I : L2.Inv X pins σ H s) (r : Vals vs us) (hl : vs.length + dvs.length = ps.length) (h : spF X.K cs G (vs ++ dvs) H Q) : wpAny (model X.prog X.w) X.A (PySem.call (.ref fa) us) (EP X pins σ Q) X.xe s := by
  have b := hb s us I.kIn (by rw [List.length_append, ← r.length, ← hd.length]; exact hl)
  refine wpAny_call (codeAny_mono (F.go X.A X.stack s H ⟨us, []⟩ (us ++ ds) (vs ++ dvs) Q hr hg I.env0 b (r.append hd) (by rw [List.length_append]; exact hl) h) fun res s' q => ?_)
  match res, q with
  | .ok (.ret u), q => exact I.after q
def tCallD (K : Fg) (cs : Nat → Option Addr) (G : List O → List O → CRes) (dvs : List V) (n : Nat) (t : TA) : TE := fun σ H Q => t σ H fun vs H1 => vs.length + dvs.length = n ∧ spF K cs G (vs ++ dvs) H1 Q
theorem pe_callD (F : FnV X.prog X.w X.K X.mg X.base cs G k fa fd ps) (hr : Room k X.A) (hu : X.A.guards = some []) {dvs : List V} {ds : List Value} (hd : Vals dvs ds) (hb : Binds X.K fd ps ds) (hg : Gl X x) (hm : X.mg x = some (.ref fa)) (hk : PySem.W.keepIn X.K (.ref fa) = true)
    (ha : PA X (e :: es) t) (hdb : (x == ("__debug__" : Str)) = false) (hs : starEach (e :: es) X.env = (false, eval e X.env) :: starEach es X.env) (hpl : (backTo pos (starEach es X.env)).any (·.1) = false) :
    PE X (.Call (.Name x p) (e :: es) [] pos) (tCallD X.K cs G dvs ps.length t) :=
  ⟨fun pins s σ H Q I h => wpAny_Call_Name_kw (ld_glob I hg hm (PySem.W.callWith_K (h₀ := X.base) I.ok.mod.kin hk
    (thn (ha.run pos pins s σ H _ I h) fun us s1 ⟨vs, H1, I1, r, hl, q⟩ => ⟨I1.kIn, F.valD hr hu hd hb I1 r hl q⟩) hs hpl) hdb)⟩
theorem pe_callD0 (F : FnV X.prog X.w X.K X.mg X.base cs G k fa fd ps) (hr : Room k X.A) (hu : X.A.guards = some []) {dvs : List V} {ds : List Value} (hd : Vals dvs ds) (hb : Binds X.K fd ps ds) (hg : Gl X x) (hm : X.mg x = some (.ref fa)) (hk : PySem.W.keepIn X.K (.ref fa) = true)
    (hdb : (x == ("__debug__" : Str)) = false) : PE X (.Call (.Name x p) [] [] pos) (tCallD X.K cs G dvs ps.length tNil) :=
  ⟨fun pins s σ H Q I h => wpAny_Call_Name_kw (ld_glob I hg hm (PySem.W.callWith_K0 I.kIn hk (F.valD (us := []) hr hu hd hb I .nil h.1 h.2)) hdb)⟩
/-- o.m(e, ..), m a def of o's class -/
def tMethV (K : Fg) (cs : Nat → Option Addr) (C : Addr) (m : Str) (G : List O → List O → CRes) (n : Nat) (ta : TE) (t : TA) : TE := fun σ H Q => ta σ H fun x H1 => ∃ a dx fs, x = .ref a ∧ H1 a = some (.ins C dx fs) ∧ fs.lookup m = none ∧
  t σ H1 fun vs H2 => vs.length + 1 = n ∧ spF K cs G (x :: vs) H2 Q
theorem pe_methV (he : PE X o ta) (c : Cls X.K C) (hm : Meth X.K C m fa) (F : FnV X.prog X.w X.K X.mg X.base cs G k fa fd ps) (hr : Room k X.A) (hu : X.A.guards = some []) (hb : Binds X.K fd ps []) (ha : PA X es t) {pl : Sem Bool}
    (hne : es = [] ∧ t = tNil ∨ ∃ e r, es = e :: r ∧ starEach (e :: r) X.env = (false, eval e X.env) :: starEach r X.env ∧ (backTo pos (starEach r X.env)).any (·.1) = false)
    (ht : eval (.Call (.Attribute o m apos) es [] pos) X.env = (do
      let ov ← eval o X.env
      standAt apos.atName
      let (f, first) ← holding [ov] (getMethod ov m pl)
      callWith pos f first (backTo pos (starEach es X.env)) (backToKw pos (keywordEach [] X.env)))) :
    PE X (.Call (.Attribute o m apos) es [] pos) (tMethV X.K cs C m G ps.length ta t) := by
  refine ⟨fun pins s σ H Q I h => PySem.W.methodCall_KW (pl := pl) (thn (he.run pins s σ H _ I h) fun u s1 ⟨x, H1, I1, rx, a, dx, fs, ex, ea, l, q⟩ => ?_) ht⟩
  subst ex
  have eu : u = Value.ref a := rx
  subst eu
  refine getmeth_ok I1 ea c hm l ?_
  rcases hne with ⟨e1, e2⟩ | ⟨e, r, e1, hst, hpl⟩
  · subst e1; subst e2
    exact PySem.W.callWith_K0 (first := [.ref a]) I1.kIn hm.kp (F.val (us := [.ref a]) (vs := [.ref a]) hr hu hb I1 (.cons rfl .nil) q.1 q.2)
  · subst e1
    exact PySem.W.callWith_K (first := [.ref a]) (h₀ := X.base) I.ok.mod.kin hm.kp (thn (ha.run pos pins s1 σ H1 _ I1 q) fun us s2 ⟨vs, H2, I2, r2, hl, q2⟩ => ⟨I2.kIn, F.val (us := .ref a :: us) (vs := .ref a :: vs) hr hu hb I2 (.cons rfl r2) hl q2⟩) hst hpl
end

/-! ### a def by its body -/
theorem deeper_guards (A : Around) (env : Env) : (A.deeper env).guards = A.guards := rfl
section
variable {P : Program} {w : World} {K : Fg} {mg : Str → Option Value} {base : Heap} {cs : Nat → Option Addr} {G : List O → List O → CRes}
theorem FnV.ofBody {x qual : Str} {st : Stmt} {fa : Addr} {fd : FuncData} {N ps : List Str} {k : Nat} (F : Fun K x qual st fa fd) (S : FnScope N ps (defScope st))
    (body : ∀ (cdv : Value) (A : Around) (outer : List Env) (s : Shared) (H : Hp) (vs : List V) (Q : VK), Room k (A.deeper (envOfC qual (defScope st) s.heap.objs.size fa cdv)) → A.guards = some [] → vs.length = ps.length → spF K cs G vs H Q →
      ∃ t, PSs (cxOf CX0 P w K mg base N qual (defScope st) fa cdv A outer s H E0) (defBody st) t ∧ t { nx := fun _ H' => Q .non H', rt := Q } (start N vs) H) : FnV P w K mg base cs G (k + 1) fa fd ps := by
  obtain ⟨oc, od, kV, doc, pm, an, cdv, ct, osl, e, lk, hcd⟩ := F.ex
  subst e
  refine ⟨fun A outer s H args us vs Q hr hg e0 hb r hl hsp => ?_⟩
  -- the hand layer's rule for a def, its promise pinned to this very call
  obtain ⟨t, ht, hq⟩ := body cdv A outer s H vs Q (hr.deeper _) hg hl hsp
  have kin : K.In s.heap := e0.mod.kin.keeps fun b ob q => (e0.bs b ob q).1
  have lim : s.heap.NoLimit := e0.mod.nolimit.keeps fun b ob q => (e0.bs b ob q).1
  refine codeAny_call_function hr.depth (kin _ _ lk) rfl S.co S.gen rfl (PySem.W.codeRec_of kin hcd) (hb _ _ _ _ ?_)
  refine wpAny_newFunctionEnv_cells S.kind (fun y hy => ?_) fun env he s1 x1 => ?_
  · have hm : y.1 ∈ ps := (List.of_mem_zip (a := y.1) (b := y.2) hy).1
    rcases S.par _ hm with z | z
    · exact .inl z
    · exact .inr ⟨z, PySem.W.cellsFrom_some _ _ _ (.inl z)⟩
  · subst he
    refine ⟨lim.keeps x1.toInCall.keep, codeAny_func ?_⟩
    have I := inv_start (CX := CX0) (E := E0) S hr.hd e0 hl r x1
    refine wpAny_mono (ht.run [] s1 (start N vs) H _ I hq) (fun fl s' hs => ?_) fun _ _ hs => hs
    match fl, hs with
    | .ret u, ⟨v, σ', H', J, rv, q⟩ => exact ⟨v, H', J.os, J.bare, J.base, J.hok, rv, q⟩
    | .next, ⟨σ', H', J, q⟩ => exact ⟨.non, H', J.os, J.bare, J.base, J.hok, rfl, q⟩
    | .brk, ⟨_, _, _, q⟩ => exact q.elim
    | .cont, ⟨_, _, _, q⟩ => exact q.elim
end
end Lw

set_option Elab.async false
set_option linter.all false
set_option maxRecDepth 100000
set_option maxHeartbeats 4000000
/-! Lw: a set comprehension whose items are texts (or whole numbers); how many it has -/
namespace Lw
open PySem L2 PySem.Spec PyProof.Rows
/-- what a turn does to the set that is being made: M is the measure's claim for the next turn -/
def sMore (P : Program) (w : World) (D : Addr) (M : Hp → Prop) : VK := fun y H => ∃ (k : L2.Key) (S : L2.Key → Bool) (n : Nat), y = kV k ∧ H D = some (SetK P w D S n) ∧ n + 1 < scanBound ∧
  M (upd H D (SetK P w D (fun j => S j || decide (j = k)) (if S k = true then n else n + 1)))
/-- one turn: the store, the test, the item -/
def sTurn (P : Program) (w : World) (D : Addr) (g : TG) (tt : TT) (te : TE) (vs : List Nat) (σ : L2.St) (M : Hp → Prop) : VK := fun x H0 =>
  g x (wipe σ vs) H0 fun σa Ha => wipe σa vs = wipe σ vs ∧ tt σa Ha fun b Hb => if b = true then te σa Hb (sMore P w D M) else M Hb
def tSetC (P : Program) (w : World) (wi : TI) (g : TG) (tt : TT) (te : TE) (vs : List Nat) : TE := fun σ H Q => wi σ H fun J Ha => ∀ D, Ha D = none →
  ∃ V : Nat → Nat → Hp → Prop, (∃ m, V 0 m (upd Ha D (SetK P w D (fun _ => false) 0))) ∧
    ∀ i m Hb, V i m Hb → (J.stop i Hb ∧ Q (.ref D) Hb) ∨
      (J.go i Hb ∧ ∃ M : Hp → Prop, (∀ Hc, M Hc → ∃ l, l < m ∧ V (i + 1) l Hc) ∧ ∀ x Hc, J.yld i Hb x Hc → sTurn P w D g tt te vs σ M x Hc)
theorem emptyK (P : Program) (w : World) (h : Heap) : (h.push { cls := .type "set", dict := none, data := .set #[] 0 (.fresh 0 0 (!w.params.followText "set-order")) }).SetOf (mixKind P w) h.objs.size (fun _ => false) 0 :=
  ⟨_, #[], 0, _, Heap.get?_push_size _ rfl, ⟨rfl, rfl, rfl⟩, rfl, (fun e he => by simp at he), (fun k => by simp), (by decide), (by rfl), rfl⟩
section
variable {X : Cx}
/-- the item goes into the set -/
theorem more_ok {pins : List (Addr × Obj)} {σ : L2.St} {H : Hp} {s : Shared} {E : Value → Shared → Prop} {D : Addr} {M : Hp → Prop} {y : V} {u : Value} {Q : Shared → Prop} (I : L2.Inv X pins σ H s) (ry : RelV y u)
    (h : sMore X.prog X.w D M y H) (k : ∀ H' s', L2.Inv X pins σ H' s' → M H' → Q s') : wpAny (model X.prog X.w) X.A (call (.builtin "set.add") [.ref D, u]) (fun _ s' => Q s') E s := by
  obtain ⟨key, S, n, rfl, hD, room, hM⟩ := h
  refine call_set_add (kV_is ry) (key_scan ry) (setK_get I hD) room fun h1 same now => ?_
  have there : ∃ o, h1.get? D = some o := by obtain ⟨o, _, _, _, e, _⟩ := now; exact ⟨o, e⟩
  exact k _ _ (I.write (e := D) (t' := s.toks + 1) (by rw [hD]; trivial) (.inl rfl) (fun b o hb e => (same.2 b hb).trans e) there (setK_new now)) hM
/-- {elt for tg in iter if ..} -/
theorem pe_setC {elt tg iter : Expr} {ifs : List Expr} {scope : Scope} {own : List (Str × Nat)} {pos : Pos} {wi : TI} {g : TG} {tt : TT} {te : TE} (calm : X.calm = true) (nd : X.N.Nodup) (walk : PI X tg iter wi) (blk : BlkOk X.N X.env.scope scope own)
    (pg : ∀ (s : Shared) (H : Hp) (C : Addr) (cl : List (Str × Addr)) (fp : List Addr), PG (X.blk s H scope (compEnvC scope cl C X.env) fp) tg g)
    (pt : ∀ (s : Shared) (H : Hp) (C : Addr) (cl : List (Str × Addr)) (fp : List Addr), PTs (X.blk s H scope (compEnvC scope cl C X.env) fp) ifs tt)
    (pe : ∀ (s : Shared) (H : Hp) (C : Addr) (cl : List (Str × Addr)) (fp : List Addr), PE (X.blk s H scope (compEnvC scope cl C X.env) fp) elt te)
    (fold : ∀ x, foldedSetIterable iter X.env x = pure x) : PE X (.SetComp elt [⟨tg, iter, ifs, 0⟩] scope pos) (tSetC X.prog X.w wi g tt te (own.map (·.2))) := by
  refine ⟨fun pins s σ H Q I h => ?_⟩
  rw [PpSet.eval_SetComp]
  have clo : ∀ y ∈ scope.names, y.2 = .free → ∃ c, X.env.cells.lookup y.1 = some c := fun y hy e => (blk.free y hy e).elim (fun z => I.ok.has _ (.inl z)) fun z => I.ok.has _ (.inr z)
  refine wpAny_comprehension_free (use := none) rfl fold (closure_ok clo) blk.kind (fun y hy e => by rw [blk.uniq y hy, e]) ?_
  refine thn (walk.run pins s σ H _ I h) fun _ sa ha => thn ha fun _ sb hb => ?_
  obtain ⟨it, fp, tn, J, Hb, rfl, Ib, T, stb, fpb, ask⟩ := hb
  refine PpSet.newSet_ok (newEnv_comp ?_)
  have new : Hb sb.heap.objs.size = none := Ib.hok.fresh (Nat.le_refl _)
  obtain ⟨V, ⟨m0, v0⟩, turn⟩ := ask _ new
  have kept : ∀ b o, sb.heap.get? b = some o → (sb.heap.push { cls := .type "set", dict := none, data := .set #[] 0 (.fresh 0 0 (!X.w.params.followText "set-order")) } : Heap).get? b = some o := fun b o e => Heap.get?_push_of_some _ e
  have size : (sb.heap.push { cls := .type "set", dict := none, data := .set #[] 0 (.fresh 0 0 (!X.w.params.followText "set-order")) } : Heap).objs.size = sb.heap.objs.size + 1 := Heap.size_push ..
  have Ic : L2.Inv X pins σ (upd Hb sb.heap.objs.size (SetK X.prog X.w sb.heap.objs.size (fun _ => false) 0)) { sb with heap := sb.heap.push { cls := .type "set", dict := none, data := .set #[] 0 (.fresh 0 0 (!X.w.params.followText "set-order")) } } :=
    Ib.laid (t' := sb.toks) kept (Nat.le_refl _) (setK_new (emptyK _ _ _))
  generalize eD : sb.heap.objs.size = D at v0 turn Ic new size
  generalize ec : (sb.heap.push { cls := .type "set", dict := none, data := .set #[] 0 (.fresh 0 0 (!X.w.params.followText "set-order")) } : Heap) = hc at Ic kept size ⊢
  generalize eH : upd Hb D (SetK X.prog X.w D (fun _ => false) 0) = Hc at v0 Ic
  have low : ∀ b ∈ fp, b < D := fun b hb => by obtain ⟨o, e, _⟩ := T.obj _ _ stb b hb; rw [← eD]; exact Heap.lt_size e
  have still : ∀ b ∈ fp, Hc b = none := fun b hb => by rw [← eH, upd_ne (Nat.ne_of_lt (low b hb))]; exact (fpb b hb).1
  have foot : ∀ b ∈ fp, FpOk X pins Hc b ∧ b < ({ sb with heap := hc } : Shared).heap.objs.size := fun b hb =>
    ⟨⟨still b hb, (fpb b hb).2⟩, by show b < hc.objs.size; rw [size]; exact Nat.lt_succ_of_lt (low b hb)⟩
  have stc : tn 0 hc := T.keep _ _ _ stb fun b _ o e => kept b o e
  have Id := block_start Ic blk nd foot
  have PGo := pg { sb with heap := hc } Hc hc.objs.size (cellsFrom (hc.objs.size + 1) scope.names (cloFrom X.env.cells scope.names [])) fp
  have PTo := pt { sb with heap := hc } Hc hc.objs.size (cellsFrom (hc.objs.size + 1) scope.names (cloFrom X.env.cells scope.names [])) fp
  have PEo := pe { sb with heap := hc } Hc hc.objs.size (cellsFrom (hc.objs.size + 1) scope.names (cloFrom X.env.cells scope.names [])) fp
  generalize een : compEnvC scope (cellsFrom (hc.objs.size + 1) scope.names (cloFrom X.env.cells scope.names [])) hc.objs.size X.env = en at Id PGo PTo PEo
  have loc : en.locals = hc.objs.size := by rw [← een]; rfl
  generalize ed : ({ sb with heap := pushCells (hc.push { cls := .type "dict", data := .dict #[] }) scope.names } : Shared) = sd at Id
  have std : tn 0 sd.heap := T.keep _ _ _ stc fun b _ o e => by rw [← ed]; exact pushCells_keeps _ _ _ _ (Heap.get?_push_of_some _ e)
  generalize eB : X.blk { sb with heap := hc } Hc scope en fp = B at Id PGo PTo PEo
  have feet : ∀ {σ' : L2.St} {H' : Hp} {s' : Shared}, L2.Inv B [] σ' H' s' → (∀ b ∈ fp, H' b = none) → ∀ b ∈ fp, FpOk B [] H' b := by
    intro σ' H' s' I' nn b hb
    subst eB
    exact ⟨nn b hb, (I'.ok.exf b hb).1, I'.ok.exfs b hb, .inl hb, fun x c e => (I'.ok.exf b hb).2 x c e, fun p hp => absurd (show p ∈ ([] : List (Addr × Obj)) ++ [] from hp) (by simp)⟩
  -- what a turn begins with
  let Go (i : Nat) (H' : Hp) (s' : Shared) : Prop := L2.Inv B [] (wipe σ (own.map (·.2))) H' s' ∧ tn i s'.heap ∧ ∀ b ∈ fp, H' b = none
  have main : codeAny (model X.prog X.w) X.A (.compLoop (.SetComp elt [⟨tg, iter, ifs, 0⟩] scope pos) 0 (.ref it) (.ref D) en) (compPost (model X.prog X.w) X.A X.xe none (EP X pins σ Q) (.ref D) hc.objs.size) sd := by
    subst eB
    refine PpSet.compLoopS_any (fun m s' => ∃ i H', Go i H' s' ∧ V i m H') ?_ m0 ⟨0, Hc, ⟨Id, std, still⟩, v0⟩
    rintro m se ⟨i, He, ⟨Ie, ste, stille⟩, ve⟩
    rcases turn i m He ve with ⟨halt, told⟩ | ⟨go, M, less, body⟩
    · have over := T.done (X.blk { sb with heap := hc } Hc scope en fp) rfl rfl rfl calm i [] se _ He (fun _ _ => False) Ie (feet Ie stille) ste halt
      refine thnF over fun r sf hf => ?_
      obtain ⟨rfl, If⟩ := hf
      have Ig : L2.Inv X pins σ He sf := Ic.call' (ch := fp) If.os If.base If.hok If.bare fun b hb => let z := (foot b hb).1.2; ⟨z.2.2.1, z.1, z.2.2.2.1, z.2.2.2.2⟩
      have none0 : He hc.objs.size = none := by have z : He en.locals = none := If.free; rwa [loc] at z
      obtain ⟨ns, hns, _⟩ := If.loc
      have hns : sf.heap.Ns en.locals ns := hns
      rw [loc] at hns
      have F : FpOk X pins He hc.objs.size := Ic.fpOk (Nat.le_refl _) none0
      refine ⟨ns, hns, fun h'' sb' => ⟨.ref D, He, Ig.turned (t' := sf.toks) (fun b o hb e => (sb'.2 b hb).trans e) F.1 F.2.1 F.2.2.2.1 F.2.2.2.2.1 F.2.2.2.2.2, rfl, told⟩⟩
    · have one := T.item (X.blk { sb with heap := hc } Hc scope en fp) rfl rfl rfl calm i [] se _ He (fun _ _ => False) Ie (feet Ie stille) ste go
      refine thnF one fun r sf hf => ?_
      obtain ⟨u, rfl, hf⟩ := hf
      refine thnF hf fun _ sg hg => ?_
      obtain ⟨x, Hg, Ig, rx, yld, stg, stillg⟩ := hg
      have Ip := Ig.pinned (feet Ig stillg) (T.obj _ _ stg)
      refine thnF (PGo.run _ sg _ Hg x u _ Ip rx (body x Hg yld)) fun _ sh hh => ?_
      obtain ⟨σh, Hh, Ih, wh, th⟩ := hh
      refine thnF (PTo.run _ sh σh Hh _ Ih th) fun b sk hk => ?_
      obtain ⟨Hk, Ik, qk⟩ := hk
      have len : (wipe σ (own.map (·.2))).length = σh.length := by rw [← wh, wipe_length]
      have fin : ∀ (H' : Hp) (s' : Shared), L2.Inv (X.blk { sb with heap := hc } Hc scope en fp) ([] ++ pinsAt fp sg.heap) σh H' s' → M H' → ∃ l, l < m ∧ ∃ j H'', Go j H'' s' ∧ V j l H'' := by
        intro H' s' I' hM
        obtain ⟨l, hl, hv⟩ := less H' hM
        have pinned : ∀ b ∈ fp, ∀ o, sg.heap.get? b = some o → s'.heap.get? b = some o ∧ H' b = none := fun b hb o e => by
          have z := I'.pin (b, o) (List.mem_append_right _ (List.mem_append_right _ (mem_pinsAt hb e)))
          exact ⟨z.1, z.2.1⟩
        refine ⟨l, hl, i + 1, H', ⟨(I'.unpinned (pins := [])).weak len (fun j v e => ?_), T.keep _ _ _ stg fun b hb o e => (pinned b hb o e).1, fun b hb => ?_⟩, hv⟩
        · rw [← wh] at e; exact (wipe_some e).1
        · obtain ⟨o, e, _⟩ := T.obj _ _ stg b hb; exact (pinned b hb o e).2
      cases b with
      | false => simp only [Bool.false_eq_true, if_false] at qk ⊢; exact fin _ _ Ik qk
      | true =>
        simp only [if_true] at qk ⊢
        refine thnF (PEo.run _ sk σh Hk _ Ik qk) fun z sl hl => ?_
        obtain ⟨y, Hl, Il, rl, ql⟩ := hl
        exact more_ok (X := X.blk { sb with heap := hc } Hc scope en fp) Il rl ql fin
  subst een
  subst ed
  exact PpSet.codeAny_compStart_set main (T.self X.A 0 _ _ _ std main)
end
end Lw

set_option Elab.async false
set_option linter.all false
set_option maxRecDepth 100000
set_option maxHeartbeats 4000000
/-! Lw: sum(lists, []) -/
namespace Lw
open PySem L2 PySem.Spec PyProof.Rows
theorem args_sum2 (a b : Value) : argsOk "sum" ⟨[a, b], []⟩ := by unfold argsOk; kernel_rfl
theorem sub_list_str : isSubtype (.type "list") (.type "str") = pure false := by rw [isSubtype_type]; kernel_rfl
theorem sub_list_bytes : isSubtype (.type "list") (.type "bytes") = pure false := by rw [isSubtype_type]; kernel_rfl
theorem sub_list_bytearray : isSubtype (.type "list") (.type "bytearray") = pure false := by rw [isSubtype_type]; kernel_rfl
/-- a list as it lies -/
def LsAt (h : Heap) (a : Addr) (its : List Value) : Prop := ∃ n, IsL h a its.toArray n
theorem LsAt.keep {h h' : Heap} {a : Addr} {its : List Value} (x : LsAt h a its) (k : ∀ o, h.get? a = some o → h'.get? a = some o) : LsAt h' a its := by obtain ⟨n, x⟩ := x; exact ⟨n, k _ x⟩
section
variable {prog : Program} {w : World} {A : Around} {R : Result → Shared → Prop} {I S : Addr} {fp wr : List Addr} {P : Nat → Value → Prop} {St : Nat → Heap → Prop} {h0 : Heap}
theorem cat_go {part : List (List Value)} {s0 : Shared} (W : Walks prog w A.in1 I fp wr part.length P St) (hS : S ∉ fp) (size : s0.heap.objs.size ≤ S) (wrs : ∀ b ∈ wr, s0.heap.objs.size ≤ b) (fps : ∀ b ∈ fp, b < S)
    (each : ∀ i v, P i v → ∃ b l, part[i]? = some l ∧ v = .ref b ∧ LsAt s0.heap b l) (fits : ∀ i, (part.take i).flatten.length ≤ sizeLine)
    {e0 : Addr} (out : ∀ (a : Addr) (h' : Heap) (tk : Tok), (part.length = 0 ∧ a = e0) ∨ s0.heap.objs.size ≤ a → LsAt h' a part.flatten → (∀ b o, s0.heap.get? b = some o → h'.get? b = some o) → R (.ok (.ret (.ref a))) { s0 with heap := h', toks := tk }) :
    ∀ (k i : Nat) (a : Addr) (h : Heap) (tk : Tok) (c : Nat), part.length - i = k → i ≤ part.length → St i h → h.get? S = some { cls := .type "list", dict := none, data := .seq #[.ref a] c, slots := #[] } → LsAt h a (part.take i).flatten → a ≠ S → a ∉ wr → ((i = 0 ∧ a = e0) ∨ s0.heap.objs.size ≤ a) →
      S < h.objs.size → (∀ b o, s0.heap.get? b = some o → h.get? b = some o) → codeAny (model prog w) A (.builtin "sum.loop" ⟨[.ref I, .ref S, rawInt 2, rawInt 0], []⟩) R { s0 with heap := h, toks := tk } := by
  intro k
  induction k with
  | zero =>
    intro i a h tk c e hi st hSt la aS aw far big keep
    have ei : i = part.length := by omega
    subst ei
    refine codeAny_builtin F.entry_sum_loop ?_
    rw [Around.under_plainId F.plain_sum_loop _]
    show wpAny _ A.in1 (seqItems? (.ref S) >>= _) _ _ _
    refine wpAny_bind (wpAny_seqItems hSt rfl ?_)
    show wpAny _ A.in1 (tryCatch (pyNext (.ref I)) _ >>= _) _ _ _
    refine wpAny_bind (wpAny_tryCatch (W.done _ _ _ st fun h1 tk1 k1 => ?_))
    rw [List.take_length] at la
    refine wpAny_pure (out a h1 tk1 far (la.keep fun o e => k1 a o aw e) fun b o e => ?_)
    exact k1 b o (fun q => Nat.not_lt.mpr (wrs b q) (Heap.lt_size e)) (keep b o e)
  | succ k ih =>
    intro i a h tk c e hi st hSt la aS aw far big keep
    have hlt : i < part.length := by omega
    have hw : S ∉ wr := fun z => hS (W.sub _ z)
    refine codeAny_builtin F.entry_sum_loop ?_
    rw [Around.under_plainId F.plain_sum_loop _]
    show wpAny _ A.in1 (seqItems? (.ref S) >>= _) _ _ _
    refine wpAny_bind (wpAny_seqItems hSt rfl ?_)
    show wpAny _ A.in1 (tryCatch (pyNext (.ref I)) _ >>= _) _ _ _
    refine wpAny_bind (wpAny_tryCatch (W.item i _ _ _ hlt st fun v h1 tk1 pv st1 k1 => ?_))
    obtain ⟨b, l, hl, rfl, lb⟩ := each i v pv
    have keep1 : ∀ b o, s0.heap.get? b = some o → h1.get? b = some o := fun b o e => k1 b o (fun q => Nat.not_lt.mpr (wrs b q) (Heap.lt_size e)) (keep b o e)
    have la1 : LsAt h1 a (part.take i).flatten := la.keep fun o e => k1 a o aw e
    have hS1 := k1 S _ hw hSt
    obtain ⟨n1, x1⟩ := la1
    obtain ⟨n2, x2⟩ := lb.keep fun o e => keep1 b o e
    have step : (part.take i).flatten ++ l = (part.take (i + 1)).flatten := by
      rw [List.take_add_one, hl, List.flatten_append]
      simp
    show wpAny _ A.in1 ((holding [Value.ref b] (binaryOp .Add (.ref a) (.ref b))).attempt >>= _) _ _ _
    refine wpAny_bind (wpAny_attempt (wpAny_holding (PySem.P.add_list (s := { s0 with heap := h1, toks := tk1 }) x1 x2 ?_ ?_)))
    · have arr : (part.take i).flatten.toArray ++ l.toArray = (part.take (i + 1)).flatten.toArray := by rw [← step]; simp
      rw [arr]
      have hS2 : (h1.push { cls := .type "list", data := .seq (part.take (i + 1)).flatten.toArray } : Heap).get? S = _ := Heap.get?_push_of_some _ hS1
      have bigS : S < h1.objs.size := Heap.lt_size hS1
      show wpAny _ A.in1 (updateSeq S (fun _ => #[.ref h1.objs.size]) >>= _) _ _ _
      refine wpAny_bind ?_
      refine wpAny_updateSeq hS2 rfl ?_
      have hS3 := Heap.get?_update_self (Obj.mapSeq fun _ => #[Value.ref h1.objs.size]) hS2 rfl
      refine wpAny_bind (wpAny_letGo ?_)
      refine wpAny_bind ?_
      refine wpAny_updateSeq hS3 rfl (wpAny_pure ⟨plainId_quiet F.plain_sum_loop _, ?_⟩)
      have stay : ∀ b o, b ≠ S → h1.get? b = some o → (((h1.push { cls := .type "list", data := .seq (part.take (i + 1)).flatten.toArray } : Heap).update S (Obj.mapSeq fun _ => #[Value.ref h1.objs.size])).update S (Obj.mapSeq fun _ => #[Value.ref h1.objs.size])).get? b = some o := fun b o q e => by
        rw [Heap.get?_update_other _ _ (Ne.symm q), Heap.get?_update_other _ _ (Ne.symm q)]
        exact Heap.get?_push_of_some _ e
      have aS1 : h1.objs.size ≠ S := Nat.ne_of_gt bigS
      have hS4 := Heap.get?_update_self (Obj.mapSeq fun _ => #[Value.ref h1.objs.size]) hS3 rfl
      refine ih (i + 1) h1.objs.size _ tk1 _ (by omega) hlt (W.frame _ _ _ st1 fun b hb o e => stay b o (fun q => hS (q ▸ hb)) e) hS4 ?_ aS1 (fun q => ?_) (.inr ?_) (Heap.lt_size hS4) fun b o e => stay b o (fun q => ?_) (keep1 b o e)
      · refine ⟨0, ?_⟩
        show Heap.get? _ _ = some _
        rw [Heap.get?_update_other _ _ (Ne.symm aS1), Heap.get?_update_other _ _ (Ne.symm aS1)]
        exact Heap.get?_push_size _ rfl
      · exact absurd (Nat.lt_trans (fps _ (W.sub _ q)) bigS) (Nat.lt_irrefl _)
      · exact Nat.le_of_lt (Nat.lt_of_le_of_lt size bigS)
      · exact absurd (Nat.lt_of_lt_of_le (Heap.lt_size e) size) (by rw [q]; exact Nat.lt_irrefl _)
    · rw [List.size_toArray, List.size_toArray, ← List.length_append, step]; exact fits _
end
section
variable {prog : Program} {w : World} {A : Around} {E : Value → Shared → Prop} {s : Shared}
/-- sum(lists, e), e a list: what is told is new where there is a list -/
theorem call_sumL {l e : Addr} {rs : List Value} {part : List (List Value)} {Q : Value → Shared → Prop} (hh : A.handled = none) (hl : LsAt s.heap l rs) (he : LsAt s.heap e []) (hlen : rs.length = part.length)
    (each : ∀ (i : Nat) (v : Value), rs[i]? = some v → ∃ b q, part[i]? = some q ∧ v = .ref b ∧ LsAt s.heap b q) (fits : ∀ i, (part.take i).flatten.length ≤ sizeLine)
    (out : ∀ (a : Addr) (h' : Heap) (tk : Tok), (part.length = 0 ∧ a = e) ∨ s.heap.objs.size ≤ a → LsAt h' a part.flatten → (∀ b o, s.heap.get? b = some o → h'.get? b = some o) → Q (Value.ref a) { s with heap := h', toks := tk }) :
    wpAny (model prog w) A (PySem.call (.builtin "sum") [Value.ref l, Value.ref e]) Q E s := by
  refine call_function_tree F.kind_sum F.plain_sum F.entry_sum (args_sum2 _ _) ?_
  unfold Builtin.«sum»
  simp only [List.length_cons, List.length_nil]
  rw [if_neg (by decide)]
  refine wpAny_bind (wpAny_of_eq (show Builtin.Builtins.bindParams "sum" ["start"] 0 ⟨[Value.ref e], []⟩ = pure [some (Value.ref e)] from rfl) ?_)
  obtain ⟨nl, hl⟩ := hl
  obtain ⟨ne, he⟩ := he
  have lts : l < s.heap.objs.size := Heap.lt_size hl
  have ltE : e < s.heap.objs.size := Heap.lt_size he
  refine wpAny_bind (wpAny_pyIter_list (IsL.isList hl) ?_)
  generalize hi : (s.heap.push { cls := .type "list_iterator", data := .fields #[.ref l, .int 0 0] } : Heap) = hp
  have kp : ∀ b o, s.heap.get? b = some o → hp.get? b = some o := fun b o q => by rw [← hi]; exact Heap.get?_push_of_some _ q
  have sz : hp.objs.size = s.heap.objs.size + 1 := by rw [← hi]; exact Heap.size_push ..
  have it0 : hp.IsListIter s.heap.objs.size l 0 := ⟨_, by rw [← hi]; exact Heap.get?_push_size _ rfl, rfl, rfl⟩
  have tyE : ({ s with heap := hp } : Shared).TypeIs (.ref e) "list" := ⟨_, kp _ _ he, rfl⟩
  refine wpAny_bind (wpAny_pure ?_)
  simp only [List.forIn_cons, List.forIn_nil]
  refine wpAny_bind (wpAny_bind (wpAny_bind (wpAny_isInstance (T := "list") (b := false) tyE sub_list_str ?_)))
  simp only [Bool.false_eq_true, if_false]
  refine wpAny_pure (wpAny_bind (wpAny_bind (wpAny_isInstance (T := "list") (b := false) tyE sub_list_bytes ?_)))
  simp only [Bool.false_eq_true, if_false]
  refine wpAny_pure (wpAny_bind (wpAny_bind (wpAny_isInstance (T := "list") (b := false) tyE sub_list_bytearray ?_)))
  simp only [Bool.false_eq_true, if_false]
  refine wpAny_pure (wpAny_pure ?_)
  refine wpAny_bind (wpAny_newObj_type ?_)
  have itl : l ≠ s.heap.objs.size := Nat.ne_of_lt lts
  have W := Walks.list (prog := prog) (w := w) (A := A.in1) hh s.heap.objs.size l itl rs.toArray
  have sza : rs.toArray.size = part.length := by rw [List.size_toArray, hlen]
  rw [sza] at W
  refine wpAny_pure ⟨plainId_quiet F.plain_sum_loop _, cat_go (s0 := s) (S := hp.objs.size) W ?_ ?_ ?_ ?_ (fun i v hv => each i v (by simpa using hv)) fits ?_ part.length 0 e _ s.toks 0 rfl (Nat.zero_le _) ?_ (Heap.get?_push_size _ rfl) ?_ ?_ ?_ (.inl ⟨rfl, rfl⟩) ?_ ?_⟩
  · rw [sz]
    intro q
    rcases List.mem_cons.mp q with q | q
    · exact Nat.succ_ne_self _ q
    · rcases List.mem_cons.mp q with q | q
      · have : s.heap.objs.size < l := by rw [← q]; exact Nat.lt_succ_self _
        exact Nat.lt_asymm this lts
      · cases q
  · rw [sz]; exact Nat.le_succ _
  · intro b hb
    rw [List.mem_singleton.mp hb]
    exact Nat.le_refl _
  · intro b hb
    rw [sz]
    rcases List.mem_cons.mp hb with q | q
    · rw [q]; exact Nat.lt_succ_self _
    · rcases List.mem_cons.mp q with q | q
      · rw [q]; exact Nat.lt_succ_of_lt lts
      · cases q
  · intro a h' tk far la k
    exact out a h' tk far la k
  · exact ⟨it0.at fun o q => Heap.get?_push_of_some _ q, (IsL.isList (kp _ _ hl)).push _⟩
  · exact ⟨ne, Heap.get?_push_of_some _ (kp _ _ he)⟩
  · rw [sz]; exact Nat.ne_of_lt (Nat.lt_succ_of_lt ltE)
  · intro q; exact absurd (List.mem_singleton.mp q) (Nat.ne_of_lt ltE)
  · rw [Heap.size_push]; exact Nat.lt_succ_self _
  · intro b o q; exact Heap.get?_push_of_some _ (kp b o q)
end
section
variable {X : Cx} {cs : Nat → Option Addr} {K : Fg} {Z : Hp} {ρ : List Addr}
theorem parts_of {pins : List (Addr × Obj)} {σ : L2.St} {H : Hp} {s : Shared} (I : L2.Inv X pins σ H s) (l : Le Z H) : ∀ {xs ys : List D} {vs : List V} {us : List Value}, catD xs = some ys → RDs K Z ρ xs vs → Vals vs us →
    ∃ (part : List (List Value)) (ws : List V), us.length = part.length ∧ (∀ (i : Nat) (v : Value), us[i]? = some v → ∃ b q, part[i]? = some q ∧ v = .ref b ∧ LsAt s.heap b q) ∧ RDs K Z ρ ys ws ∧ Vals ws part.flatten
  | [], ys, vs, us, e, r, w => by
    unfold RDs at r
    subst r
    cases w
    cases e
    exact ⟨[], [], rfl, fun i v h => by simp at h, by unfold RDs; rfl, .nil⟩
  | x :: xs, ys, vs, us, e, r, w => by
    cases x with
    | lst zs =>
      unfold catD at e
      cases e1 : catD xs with
      | none => rw [e1] at e; cases e
      | some q =>
        rw [e1] at e
        cases e
        unfold RDs at r
        obtain ⟨v, r', rfl, r1, r2⟩ := r
        cases w with
        | cons w1 w2 =>
          unfold RD at r1
          obtain ⟨a, ks, rfl, hz, r3⟩ := r1
          cases w1
          obtain ⟨_, its, n, rv, _, ea⟩ := I.lstM (l _ _ hz)
          obtain ⟨part, ws, h1, h2, h3, h4⟩ := parts_of I l e1 r2 w2
          refine ⟨its :: part, ks ++ ws, by simp [h1], fun i v hv => ?_, r3.append h3, rv.append h4⟩
          cases i with
          | zero => simp at hv; subst hv; exact ⟨a, its, rfl, rfl, n, ea⟩
          | succ i => exact h2 i v (by simpa using hv)
    | _ => simp [catD] at e
theorem take_flat {α : Type} (l : List (List α)) (i : Nat) : (l.take i).flatten.length ≤ l.flatten.length := by
  have : l.flatten = (l.take i).flatten ++ (l.drop i).flatten := by rw [← List.flatten_append, List.take_append_drop]
  rw [this, List.length_append]
  omega
theorem call_sumL2 (hc : X.calm = true) : CallR X (.builtin "sum") (rBlt X.K cs bSumL) := by
  intro pins s σ H vs us Q I r h
  obtain ⟨Z, ρ, hs, ts, os, r0, R, p, e, q⟩ := h
  unfold bSumL at e
  split at e <;> first | (simp at *; done) | skip
  rename_i a
  match vs, us, p, r with
  | [v1, v2], [u1, u2], .cons wa (.cons wb .nil), .cons ra (.cons rb .nil) =>
    split at e
    · rename_i x xs e0
      obtain ⟨p1, ks, e1, s1, r1⟩ := wa.lv R.le e0
      obtain ⟨p2, ks2, e2, s2, r2⟩ := wb.lv R.le (o := .lst []) rfl
      subst e1
      subst e2
      cases ra
      cases rb
      unfold RDs at r2
      subst r2
      split at e
      · rename_i ys e3
        split at e
        · rename_i hl
          cases e
          obtain ⟨_, its, n, rv, _, ea⟩ := I.lstM s1
          obtain ⟨_, its2, n2, rv2, _, eb⟩ := I.lstM s2
          cases rv2
          obtain ⟨part, ws, h1, h2, h3, h4⟩ := parts_of I R.le e3 r1 rv
          have hz : part.flatten.length ≤ sizeLine := by rw [← h4.length, ← h3.length]; exact line_le hl
          refine call_sumL (I.ok.hd hc) ⟨n, ea⟩ ⟨n2, eb⟩ h1 h2 (fun i => Nat.le_trans (take_flat _ _) hz) fun a h' tk far la keep => ?_
          have some1 : part.length ≠ 0 := by
            intro z
            have z := List.length_eq_zero_iff.mp z
            subst z
            have : its = [] := List.length_eq_zero_iff.mp h1
            subst this
            cases rv
            unfold RDs at r1
            obtain ⟨_, _, z, _⟩ := r1
            cases z
          have far := far.resolve_left fun z => some1 z.1
          · obtain ⟨m, la⟩ := la
            exact ⟨.ref a, _, I.laid (o := .lst ws) (t' := tk) keep far ⟨by rw [h4.length]; exact hz, _, m, h4, la⟩, rfl, q.newL R h3 (I.hok.fresh far)⟩
        · cases e
      · cases e
    · cases e
end
end Lw

set_option Elab.async false
set_option linter.all false
set_option maxRecDepth 100000
set_option maxHeartbeats 8000000
/-! Lw, part 6: the text is as the compact form says -/
namespace Lw
open PySem L2 PySem.Spec PyProof.Rows

def tgv : E → List Nat
  | .var i => [i]
  | .tup es => tgv es
  | .cons e es => tgv e ++ tgv es
  | _ => []
/-- names of the text's defs and classes, by number -/
structure Gm where
  fns : List (Option Str)
  cls : List (Option Str)
  fds : List Str
  /-- the texts and numbers that names of the text mean -/
  gcs : List (Str × L2.Key)
  /-- defs with defaults at the end: by number, name, what the last parameters are when nothing is said -/
  dfs : List (Nat × Str × List L2.Key)
def keyB : L2.Key → L2.Key → Bool
  | .inl a, .inl b => decide (a = b)
  | .inr a, .inr b => decide (a = b)
  | _, _ => false
def gcB (l : List (Str × L2.Key)) (x : Str) (k : L2.Key) : Bool := l.any fun p => decide (p.1 = x) && keyB p.2 k
theorem gc_mem {l : List (Str × L2.Key)} {x : Str} {k : L2.Key} (h : gcB l x k = true) : (x, k) ∈ l := by
  obtain ⟨⟨y, q⟩, hm, h⟩ := List.any_eq_true.mp h
  simp only [Bool.and_eq_true, decide_eq_true_eq] at h
  obtain ⟨rfl, h⟩ := h
  have e : q = k := by
    cases q <;> cases k <;> simp [keyB] at h
    · rw [h]
    · rw [h]
  rw [← e]
  exact hm
def keysB : List L2.Key → List L2.Key → Bool
  | [], [] => true
  | a :: l, b :: r => keyB a b && keysB l r
  | _, _ => false
theorem keyB_eq {a b : L2.Key} (h : keyB a b = true) : a = b := by
  cases a <;> cases b <;> simp [keyB] at h
  · rw [h]
  · rw [h]
theorem keysB_eq : ∀ {a b : List L2.Key}, keysB a b = true → a = b
  | [], [], _ => rfl
  | a :: l, b :: r, h => by
    simp only [keysB, Bool.and_eq_true] at h
    rw [keyB_eq h.1, keysB_eq h.2]
  | [], _ :: _, h => by simp [keysB] at h
  | _ :: _, [], h => by simp [keysB] at h
def dfB (l : List (Nat × Str × List L2.Key)) (f : Nat) (x : Str) (ks : List L2.Key) : Bool := l.any fun p => decide (p.1 = f) && decide (p.2.1 = x) && keysB p.2.2 ks
theorem df_mem {l : List (Nat × Str × List L2.Key)} {f : Nat} {x : Str} {ks : List L2.Key} (h : dfB l f x ks = true) : (f, x, ks) ∈ l := by
  obtain ⟨⟨a, b, c⟩, hm, h⟩ := List.any_eq_true.mp h
  simp only [Bool.and_eq_true, decide_eq_true_eq] at h
  obtain ⟨⟨rfl, rfl⟩, h2⟩ := h
  rw [← keysB_eq h2]
  exact hm
def visB (sc : Scope) (x : Str) : Bool := match sc.names.lookup x with | some .local => true | some .cell => true | some .free => true | _ => false
def locB (fp : Str → Bool) (sc : Scope) (x : Str) : Bool := match sc.names.lookup x with | some .local => true | some .cell => fp x | _ => false
def glB (sc : Scope) (x : Str) : Bool := match sc.names.lookup x with | some .globalImplicit => true | _ => false
def biName : Bi → String
  | .len => "len" | .lst => "list" | .tup => "tuple" | .sorted => "sorted" | .rep => "repr" | .isi => "isinstance" | .all => "all" | .any => "any"
  | .sum => "sum" | .min2 => "min" | .max2 => "max" | .abs => "abs" | .stri => "str" | .sumL => "sum"
def tyNames : List String := ["str", "int", "bool", "tuple", "list", "dict"]
def allNames : List String := ["len", "list", "tuple", "sorted", "repr", "isinstance", "all", "any", "sum", "min", "max", "abs", "str", "int", "bool", "dict", "range", "enumerate", "set", "zip"]
def miName : Mi → String
  | .pop => "pop" | .popAt => "pop" | .extend => "extend" | .join => "join" | .get => "get" | .idx => "index" | .remove => "remove"
def miArity : Mi → Nat → Bool
  | .pop, 0 => true | .popAt, 1 => true | .join, 1 => true | .extend, 1 => true | .get, 1 => true | .get, 2 => true | .remove, 1 => true | _, _ => false
def isTup : Expr → Bool | .Tuple .. => true | _ => false
def call0 : Expr → Bool | .Call (.Name _ _) [] [] _ => true | _ => false
def isSlice : Expr → Bool | .Slice .. => true | _ => false
def isSet : Expr → Bool | .Set .. => true | _ => false
def isStar : Expr → Bool | .Starred .. => true | _ => false
def conB : D → Const → Bool
  | .non, .none => true
  | .bl b, .bool c => b == c
  | .int i, .int j => i == j
  | .str x, .str y => decide (x = y)
  | _, _ => false
def goodN (x : Str) : Bool := !(x == ("__debug__" : Str)) && !(x == ("__classdict__" : Str)) && !decide (x = "__name__")
def oknd (k : ScopeKind) : Bool := match k with | .function => true | _ => false

def isYes : E → Bool | .con (.bl true) => true | _ => false
theorem isYes_eq {e : E} (h : isYes e = true) : e = .con (.bl true) := by
  unfold isYes at h
  split at h
  · rfl
  · cases h
def lenOfSet : Expr → Option (Str × Str × Expr)
  | .Call (.Name n _) [.Call (.Name m _) [x] [] _] [] _ => some (n, m, x)
  | _ => none
def lenOfComp : Expr → Option (Str × Expr × Expr × Expr × List Expr × Scope)
  | .Call (.Name n _) [.SetComp x [⟨y, z, ifs, 0⟩] scope _] [] _ => some (n, x, y, z, ifs, scope)
  | _ => none
def compOf2 : Expr → Option (Expr × Expr × Expr × List Expr × Expr × Expr × List Expr × Scope)
  | .ListComp x [⟨y, z, ifs, 0⟩, ⟨y1, z1, ifs1, 0⟩] scope _ => some (x, y, z, ifs, y1, z1, ifs1, scope)
  | _ => none
mutual
def mt (g : Gm) (N : List Str) (fp : Str → Bool) (sc : Scope) : E → Expr → Bool
  | .var i, .Name x _ => decide (N[i]? = some x) && visB sc x
  | .con d, .Constant c _ _ => conB d c
  | .con (.ty n), .Name x _ => tyNames.contains n && decide (x = Str.ofString n) && glB sc x
  | .con (.int i), .Name x _ => glB sc x && !(x == ("__debug__" : Str)) && gcB g.gcs x (.inl i)
  | .con (.str z), .Name x _ => glB sc x && !(x == ("__debug__" : Str)) && gcB g.gcs x (.inr z)
  | .bin op a b, .BinOp x o y _ => decide (o = opOf op) && mt g N fp sc a x && mt g N fp sc b y
  | .neg a, .UnaryOp .USub x _ => mt g N fp sc a x
  | .cmp op a b, .Compare x [o] [y] _ => decide (o = copOf op) && mt g N fp sc a x && mt g N fp sc b y
  | .chn o1 o2 a b c, .Compare x [p, q] [y, z] _ => decide (p = copOf o1) && decide (q = copOf o2) && mt g N fp sc a x && mt g N fp sc b y && mt g N fp sc c z
  | .and a b, .BoolOp .And (x :: y :: r) p => mt g N fp sc a x && mt g N fp sc b (.BoolOp .And (y :: r) p)
  | .or a b, .BoolOp .Or (x :: y :: r) p => mt g N fp sc a x && mt g N fp sc b (.BoolOp .Or (y :: r) p)
  | .one a, .BoolOp _ [x] _ => mt g N fp sc a x
  | .not a, .UnaryOp .Not x _ => mt g N fp sc a x
  | .ite c a b, .IfExp x y z _ => mt g N fp sc c x && mt g N fp sc a y && mt g N fp sc b z
  | .tup es, .Tuple xs _ _ => mtL g N fp sc es xs
  | .lst es, .List xs _ => mtL g N fp sc es xs
  | .idx a b, .Subscript x y _ => mt g N fp sc a x && mt g N fp sc b y
  | .dsp .nil, .Dict [] [] _ => true
  | .repL es, .Call (.Name n _) [.List xs _] [] _ => decide (n = "repr") && glB sc n && mtL g N fp sc es xs
  | .rev a, .Subscript x (.Slice none none (some (.UnaryOp .USub (.Constant (.int k) _ _) _)) _) _ => decide (k = 1) && mt g N fp sc a x
  | .stp a k, .Subscript x (.Slice none none (some (.Constant (.int j) _ _)) _) _ => decide (j = (k : Int)) && decide (0 < k) && mt g N fp sc a x
  | .rngl a, .Call (.Name n _) [.Call (.Name m _) [x] [] _] [] _ => decide (n = "list") && decide (m = "range") && glB sc n && glB sc m && mt g N fp sc a x
  | .rngt a, .Call (.Name n _) [.Call (.Name m _) [x] [] _] [] _ => decide (n = "tuple") && decide (m = "range") && glB sc n && glB sc m && mt g N fp sc a x
  | .fst a z b, .JoinedStr [.FormattedValue x c1 none _, .Constant (.str w) _ _, .FormattedValue y c2 none _] _ => decide (c1 = -1) && decide (c2 = -1) && decide (w = z) && mt g N fp sc a x && mt g N fp sc b y
  | .sumS a, .Call (.Name n _) [x, .List [] _] [] _ => decide (n = "sum") && glB sc n && mt g N fp sc a x
  | .sl a lo hi, .Subscript x (.Slice l u none _) _ => mt g N fp sc a x && mtP g N fp sc lo l && mtP g N fp sc hi u
  | .call f es, .Call (.Name x _) xs [] _ => decide (g.fns[f]? = some (some x)) && glB sc x && goodN x && mtL g N fp sc es xs
  | .blt b es, .Call (.Name x _) (y :: ys) [] _ => decide (x = Str.ofString (biName b)) && glB sc x && mtL g N fp sc es (y :: ys)
  | .app o e, .Call (.Attribute x m ap) [y] [] p => decide (m = "append") && !call0 x && (ap.endLine == p.line) && mt g N fp sc o x && mt g N fp sc e y
  | .mth m o es, .Call (.Attribute x n ap) ys [] p => decide (n = Str.ofString (miName m)) && !call0 x && (ap.endLine == p.line) && miArity m ys.length && mt g N fp sc o x && mtL g N fp sc es ys
  | .omt m o es, .Call (.Attribute x n ap) ys [] p => decide (n = m) && !call0 x && (ap.endLine == p.line) && decide (ys.length < 28) && mt g N fp sc o x && mtL g N fp sc es ys
  | .new c es, .Call (.Name x _) xs [] _ => decide (g.cls[c]? = some (some x)) && glB sc x && goodN x && mtL g N fp sc es xs
  | .fld o f, .Attribute x n _ => decide (n = f) && !call0 x && g.fds.contains f && mt g N fp sc o x
  | .comp elt t it cond own, .ListComp x [⟨y, z, ifs, 0⟩] scope _ =>
      blkC N sc scope (own.map fun i => (N.getD i "", i)) && decide own.Nodup && own.all (fun i => decide (i < N.length)) && (tgv t).all own.contains && !isSet z && mtI g N fp sc y it z && mtG g N (fun n => scope.names.lookup n == some .cell) (relS scope sc) t y && mt g N (fun n => scope.names.lookup n == some .cell) (relS scope sc) elt x &&
        (match ifs with | [] => (match cond with | .con (.bl true) => true | _ => false) | [c] => mt g N (fun n => scope.names.lookup n == some .cell) (relS scope sc) cond c | _ => false)
  | .callD f es ks, .Call (.Name x _) xs [] _ => dfB g.dfs f x ks && glB sc x && goodN x && mtL g N fp sc es xs
  | .slen a, e => match lenOfSet e with | some (n, m, x) => decide (n = "len") && decide (m = "set") && glB sc n && glB sc m && mt g N fp sc a x | none => false
  | .slenC elt t it cond own, e => match lenOfComp e with
    | some (n, x, y, z, ifs, scope) => decide (n = "len") && glB sc n &&
      (blkC N sc scope (own.map fun i => (N.getD i "", i)) && decide own.Nodup && own.all (fun i => decide (i < N.length)) && (tgv t).all own.contains && !isSet z && mtI g N fp sc y it z && mtG g N (fun n => scope.names.lookup n == some .cell) (relS scope sc) t y && mt g N (fun n => scope.names.lookup n == some .cell) (relS scope sc) elt x &&
        (match ifs with | [] => isYes cond | [c] => mt g N (fun n => scope.names.lookup n == some .cell) (relS scope sc) cond c | _ => false))
    | none => false
  | .comp2 elt t it cond t1 it1 cond1 own own1, e => match compOf2 e with
    | some (x, y, z, ifs, y1, z1, ifs1, scope) =>
      (blkC N sc scope (own.map fun i => (N.getD i "", i)) && decide own.Nodup && own.all (fun i => decide (i < N.length)) && (tgv t).all own.contains && !isSet z && mtI g N fp sc y it z && mtG g N (fun n => scope.names.lookup n == some .cell) (relS scope sc) t y && mt g N (fun n => scope.names.lookup n == some .cell) (relS scope sc) elt x &&
        (match ifs with | [] => isYes cond | [c] => mt g N (fun n => scope.names.lookup n == some .cell) (relS scope sc) cond c | _ => false)) &&
      (decide own1.Nodup && own1.all own.contains && (tgv t1).all own1.contains && !isSet z1 && mtI g N (fun n => scope.names.lookup n == some .cell) (relS scope sc) y1 it1 z1 && mtG g N (fun n => scope.names.lookup n == some .cell) (relS scope sc) t1 y1 &&
        (match ifs1 with | [] => isYes cond1 | [c] => mt g N (fun n => scope.names.lookup n == some .cell) (relS scope sc) cond1 c | _ => false))
    | none => false
  | _, _ => false
def mtL (g : Gm) (N : List Str) (fp : Str → Bool) (sc : Scope) : E → List Expr → Bool
  | .nil, [] => true
  | .cons e es, x :: xs => mt g N fp sc e x && mtL g N fp sc es xs
  | _, _ => false
def mtP (g : Gm) (N : List Str) (fp : Str → Bool) (sc : Scope) : E → Option Expr → Bool
  | .nil, none => true
  | .one e, some x => mt g N fp sc e x
  | _, _ => false
def mtI (g : Gm) (N : List Str) (fp : Str → Bool) (sc : Scope) (tg : Expr) : E → Expr → Bool
  | .seq a, x => mt g N fp sc a x
  | .rng1 a, .Call (.Name n _) [x] [] _ => decide (n = "range") && glB sc n && mt g N fp sc a x
  | .rng2 a b, .Call (.Name n _) [x, y] [] _ => decide (n = "range") && glB sc n && mt g N fp sc a x && mt g N fp sc b y
  | .zipE es, .Call (.Name n _) [x, y] [] _ => isTup tg && decide (n = "zip") && glB sc n && mtL g N fp sc es [x, y]
  | .zipE es, .Call (.Name n _) [x, y] [⟨some kn, .Constant (.bool false) _ _, _⟩] _ => isTup tg && decide (n = "zip") && glB sc n && decide (kn = "strict") && mtL g N fp sc es [x, y]
  | .enm a, .Call (.Name n _) [x] [] _ => isTup tg && decide (n = "enumerate") && glB sc n && mt g N fp sc a x
  | _, _ => false
def mtG (g : Gm) (N : List Str) (fp : Str → Bool) (sc : Scope) : E → Expr → Bool
  | .var i, .Name x _ => decide (N[i]? = some x) && locB fp sc x
  | .tup es, .Tuple xs _ _ => mtGs g N fp sc es xs
  | .idx a b, .Subscript x y _ => mt g N fp sc a x && mt g N fp sc b y
  | .fld o f, .Attribute x n _ => decide (n = f) && g.fds.contains f && mt g N fp sc o x
  | _, _ => false
def mtGs (g : Gm) (N : List Str) (fp : Str → Bool) (sc : Scope) : E → List Expr → Bool
  | .nil, [] => true
  | .cons e es, x :: xs => mtG g N fp sc e x && mtGs g N fp sc es xs
  | _, _ => false
end

/-- the text around -/
structure XOk (g : Gm) (cs : Nat → Option Addr) (cl : Cl) (fl : Nat → List Bool) (N : List Str) (fp : Str → Bool) (sc : Scope) (X : Cx) : Prop where
  hN : X.N = N
  nd : N.Nodup
  good : ∀ (i : Nat) x, N[i]? = some x → goodN x = true
  sc : X.env.scope = sc
  calm : X.calm = true
  gd : X.A.guards = some []
  un : X.A.units + 200 < cLine
  bn : ∀ n, n ∈ allNames → X.mg (Str.ofString n) = none
  gcs : ∀ x k, (x, k) ∈ g.gcs → ∃ u, X.mg x = some u ∧ RelV (kV k) u
  fp : ∀ x, fp x = true → X.fn x = true
  fns : ∀ f x, g.fns[f]? = some (some x) → ∃ fa fd ps k, X.mg x = some (.ref fa) ∧ PySem.W.keepIn X.K (.ref fa) = true ∧ FnV X.prog X.w X.K X.mg X.base cs (cl.fn f) k fa fd ps ∧ Room k X.A ∧ Binds X.K fd ps [] ∧
    ∀ os h o h', cl.fn f os h = .ok o h' → os.length = ps.length
  dfs : ∀ f x ks, (f, x, ks) ∈ g.dfs → ∃ fa fd ps k, X.mg x = some (.ref fa) ∧ PySem.W.keepIn X.K (.ref fa) = true ∧ FnV X.prog X.w X.K X.mg X.base cs (cl.fn f) k fa fd ps ∧ Room k X.A ∧ (∃ ds, Vals (ks.map kV) ds ∧ Binds X.K fd ps ds) ∧
    ∀ os h o h', cl.fn f os h = .ok o h' → os.length = ps.length
  mts : ∀ c m f, cl.mt c m = some f → ∃ C fa fd ps k, cs c = some C ∧ Cls X.K C ∧ Meth X.K C m fa ∧ FnV X.prog X.w X.K X.mg X.base cs (cl.fn f) k fa fd ps ∧ Room k X.A ∧ Binds X.K fd ps [] ∧
    ∀ os h o h', cl.fn f os h = .ok o h' → os.length = ps.length
  news : ∀ c f x, cl.ini c = some f → g.cls[c]? = some (some x) → ∃ C fa fd ps k, cs c = some C ∧ X.mg x = some (.ref C) ∧ Mk X.K C fa ∧ FnV X.prog X.w X.K X.mg X.base cs (cl.fn f) k fa fd ps ∧ Room (k + 1) X.A ∧ Binds X.K fd ps [] ∧
    ∀ os h o h', cl.fn f os h = .ok o h' → os.length = ps.length
  flds : ∀ c C f, cs c = some C → g.fds.contains f = true → Cls X.K C ∧ NoAttr X.K C f

section
variable {g : Gm} {cs : Nat → Option Addr} {cl : Cl} {fl : Nat → List Bool} {N : List Str} {fp : Str → Bool} {sc : Scope} {X : Cx}
theorem vis_of {x : Str} (O : XOk g cs cl fl N fp sc X) (h : visB sc x = true) : Vis X.env.scope x := by
  rw [O.sc]
  unfold visB at h
  unfold Vis
  split at h <;> first | (cases h; done) | simp [*]
theorem gl_of {x : Str} (O : XOk g cs cl fl N fp sc X) (h : glB sc x = true) : Gl X x := by
  unfold Gl PySem.Env.kindOf
  rw [O.sc]
  unfold glB at h
  split at h <;> first | (cases h; done) | assumption
theorem loc_of {x : Str} (O : XOk g cs cl fl N fp sc X) (h : locB fp sc x = true) : L2.Loc X.env.scope x ∧ (X.fn x = true ∨ X.env.scope.names.lookup x = some .local) := by
  rw [O.sc]
  unfold locB at h
  unfold L2.Loc
  split at h
  · rename_i h1; exact ⟨.inl h1, .inr h1⟩
  · rename_i h1; exact ⟨.inr h1, .inl (O.fp _ h)⟩
  · cases h
theorem goodN_of {x : Str} (h : goodN x = true) : (x == ("__debug__" : Str)) = false ∧ (x == ("__classdict__" : Str)) = false ∧ x ≠ "__name__" := by
  unfold goodN at h
  simp only [Bool.and_eq_true, Bool.not_eq_true', decide_eq_false_iff_not] at h
  exact ⟨h.1.1, h.1.2, h.2⟩
theorem no_star {e : E} {x : Expr} (h : mt g N fp sc e x = true) : isStar x = false := by
  cases x <;> first | rfl | (cases e <;> simp [mt, lenOfSet, lenOfComp, compOf2] at h)
theorem no_slice {e : E} {x : Expr} (h : mt g N fp sc e x = true) : isSlice x = false := by
  cases x <;> first | rfl | (cases e <;> simp [mt, lenOfSet, lenOfComp, compOf2] at h)
theorem no_set {e : E} {x : Expr} (h : mt g N fp sc e x = true) : isSet x = false := by
  cases x <;> first | rfl | (cases e <;> simp [mt, lenOfSet, lenOfComp, compOf2] at h)
theorem star_one {x : Expr} {xs : List Expr} {env : Env} (h : isStar x = false) : starEach (x :: xs) env = (false, eval x env) :: starEach xs env := by
  cases x <;> first | rfl | cases h
theorem stars_of : ∀ {es : E} {xs : List Expr} (h : mtL g N fp sc es xs = true) (env : Env) (pos : Pos), (backTo pos (starEach xs env)).any (·.1) = false ∧ (backTo pos (starEach xs env)).all (fun x => !x.1) = true
  | es, [], h, env, pos => ⟨rfl, rfl⟩
  | .nil, x :: xs, h, env, pos => by simp [mtL] at h
  | .cons e es, x :: xs, h, env, pos => by
    simp only [mtL, Bool.and_eq_true] at h
    rw [star_one (no_star h.1)]
    obtain ⟨h1, h2⟩ := stars_of h.2 env pos
    exact ⟨by show (false || _) = false; rw [Bool.false_or]; exact h1, by show (true && _) = true; rw [Bool.true_and]; exact h2⟩
theorem plain_ix {e : E} {x : Expr} (h : mt g N fp sc e x = true) : PlainIx x := by
  have := no_slice h
  intro o i
  cases x <;> first | rfl | cases this
theorem attr_base {x : Expr} {m : Str} {env : Env} (h : call0 x = false) : attributeBase x m env (eval x env) = eval x env := by
  unfold attributeBase
  split
  · simp [call0] at h
  · rfl
theorem folded_of {x : Expr} {env : Env} (h : isSet x = false) (v : Value) : foldedSetIterable x env v = pure v := by
  unfold foldedSetIterable
  cases x <;> first | rfl | cases h
theorem mark_of {x : Expr} {op : CmpOp} (h : isSet x = false) : behindInMarks op x = false := by
  unfold behindInMarks
  cases x <;> first | rfl | cases h
theorem PE.imp {e : Expr} {t t' : TE} (h : PE X e t) (k : ∀ σ H Q, t' σ H Q → t σ H Q) : PE X e t' := ⟨fun pins s σ H Q I q => h.run pins s σ H Q I (k _ _ _ q)⟩
theorem PT.imp {e : Expr} {t t' : TT} (h : PT X e t) (k : ∀ σ H Q, t' σ H Q → t σ H Q) : PT X e t' := ⟨fun pins s σ H Q I q => h.run pins s σ H Q I (k _ _ _ q)⟩
theorem PA.imp {e : List Expr} {t t' : TA} (h : PA X e t) (k : ∀ σ H Q, t' σ H Q → t σ H Q) : PA X e t' := ⟨fun pos pins s σ H Q I q => h.run pos pins s σ H Q I (k _ _ _ q)⟩

/-! ### the steps, by readings -/
variable {K : Fg}
theorem i_var {i : Nat} {σ : L2.St} {H : Hp} {Q : VK} (h : rdE cs cl fl K (.var i) σ H Q) : tVar i σ H Q := by
  obtain ⟨Z, ρ, st, tm, I, F⟩ := h
  unfold Fit hd at F
  have hl := I.len
  split at F
  · rename_i x hx
    have hi : i < σ.length := by rw [← hl]; exact (List.getElem?_eq_some_iff.mp hx).1
    have R := I.rel.take hx (List.getElem?_eq_getElem hi)
    obtain ⟨u, e, r⟩ := R.isD
    exact ⟨u, by rw [List.getElem?_eq_getElem hi, e], F Z ρ u H (Le.refl _) (Px.refl _) (In.dat I r) trivial⟩
  · exact F.elim
  · rename_i o hne1 hne2 ho
    have hi : i < σ.length := by rw [← hl]; exact (List.getElem?_eq_some_iff.mp ho).1
    have R := I.rel.take ho (List.getElem?_eq_getElem hi)
    obtain ⟨f, r, _⟩ := R.uncons
    have : ∃ u, σ[i] = some u := by
      cases h : σ[i] with
      | none => rw [h] at r; cases r; exact absurd rfl hne2
      | some u => exact ⟨u, rfl⟩
    obtain ⟨u, e⟩ := this
    have e2 : σ[i]? = some (some u) := by rw [List.getElem?_eq_getElem hi, e]
    exact ⟨u, e2, F Z ρ u H (Le.refl _) (Px.refl _) I e2⟩
  · exact F.elim
/-- two operands, one behind the other; what they mean at last -/
theorem i_two {a b : E} {σ : L2.St} {H : Hp} {Z : Hp} {ρ : List Addr} {st : St} {tm : List Th} {G : Hd → Hd → St → Prop} {Q : V → V → Hp → Prop} (I : In K cs Z ρ H st σ tm)
    (F : W (hd cl fl a st) fun x s1 => W (hd cl fl b s1) fun y s2 => G x y s2)
    (k : ∀ x y s2 Z2 ρ2 v u H2, Le Z Z2 → Px ρ ρ2 → In K cs Z2 ρ2 H2 s2 σ (hT y u ++ (hT x v ++ tm)) → hV x σ v → hV y σ u → G x y s2 → Q v u H2) :
    rdE cs cl fl K a σ H fun v H1 => rdE cs cl fl K b σ H1 fun u H2 => Q v u H2 :=
  ⟨Z, ρ, st, tm, I, F.mono fun x s1 F1 Z1 ρ1 v H1 l1 p1 I1 h1 => ⟨Z1, ρ1, s1, _, I1, F1.mono fun y s2 g Z2 ρ2 u H2 l2 p2 I2 h2 => k x y s2 Z2 ρ2 v u H2 (l1.trans l2) (p1.trans p2) I2 h1 h2 g⟩⟩
theorem looks2 {x y : Hd} {σ : L2.St} {H : Hp} {Z : Hp} {ρ : List Addr} {st : St} {tm : List Th} {v u : V} {G : O → O → St → Prop} (I : In K cs Z ρ H st σ (hT y u ++ (hT x v ++ tm))) (hx : hV x σ v) (hy : hV y σ u)
    (F : W (look x st) fun p s => W (look y s) fun q s => G p q s) : ∃ p q, View K cs Z ρ H p v ∧ View K cs Z ρ H q u ∧ G p q st := by
  obtain ⟨p, w1, F1⟩ := look_ok F (tm := hT y u ++ tm) I.comm hx
  obtain ⟨q, w2, g⟩ := look_ok F1 (tm := hT x v ++ tm) I hy
  exact ⟨p, q, w1, w2, g⟩
theorem In.ans {σ : L2.St} {H H' : Hp} {Z Z' : Hp} {ρ : List Addr} {st : St} {tm : List Th} {r : O} {v : V} (I : In K cs Z ρ H st σ tm) (R : Rel K cs [] Z' ρ H' st.h ((r, some v) :: (st.e.zip σ ++ tm))) : In K cs Z' ρ H' st σ ((r, some v) :: tm) := .back I.len R
theorem i_bin {op : Bop} {a b : E} {σ : L2.St} {H : Hp} {Q : VK} (h : rdE cs cl fl K (.bin op a b) σ H Q) : tOp (rBin K cs (binop op)) (rdE cs cl fl K a) (rdE cs cl fl K b) σ H Q := by
  obtain ⟨Z, ρ, st, tm, I, F⟩ := h
  unfold Fit hd at F
  refine i_two I (W_bind.mp F |>.mono fun x s1 F => W_bind.mp F) fun x y s2 Z2 ρ2 v u H2 l p I2 hx hy F => ?_
  obtain ⟨pa, pb, w1, w2, F⟩ := looks2 I2 hx hy (W_bind.mp F |>.mono fun p s F => W_bind.mp F)
  obtain ⟨r, e, F⟩ := W_opt (W_bind.mp F)
  have I3 : In K cs Z2 ρ2 H2 s2 σ tm := I2.drops.drops
  exact ⟨Z2, ρ2, _, _, pa, pb, r, I3.rel, w1, w2, e, fun v H' Z' l' R => F Z' ρ2 v H' (l.trans l') p (I3.ans R) trivial⟩
theorem i_cmp {op : Cop} {a b : E} {σ : L2.St} {H : Hp} {Q : VK} (h : rdE cs cl fl K (.cmp op a b) σ H Q) : tOp (rCmp K cs (cmpop op)) (rdE cs cl fl K a) (rdE cs cl fl K b) σ H Q := by
  obtain ⟨Z, ρ, st, tm, I, F⟩ := h
  unfold Fit hd at F
  refine i_two I (W_bind.mp F |>.mono fun x s1 F => W_bind.mp F) fun x y s2 Z2 ρ2 v u H2 l p I2 hx hy F => ?_
  obtain ⟨pa, pb, w1, w2, F⟩ := looks2 I2 hx hy (W_bind.mp F |>.mono fun p s F => W_bind.mp F)
  obtain ⟨r, e, F⟩ := W_opt (W_bind.mp F)
  have I3 : In K cs Z2 ρ2 H2 s2 σ tm := I2.drops.drops
  exact ⟨Z2, ρ2, _, _, pa, pb, r, I3.rel, w1, w2, e, F Z2 ρ2 _ H2 l p (I3.dat (rd_bl _)) trivial⟩
theorem i_neg {a : E} {σ : L2.St} {H : Hp} {Q : VK} (h : rdE cs cl fl K (.neg a) σ H Q) : tUn (rU fun i => .int (-i)) (rdE cs cl fl K a) σ H Q := by
  obtain ⟨Z, ρ, st, tm, I, F⟩ := h
  unfold Fit hd at F
  refine ⟨Z, ρ, st, tm, I, (W_bind.mp F).mono fun x s1 F Z1 ρ1 v H1 l p I1 hx => ?_⟩
  obtain ⟨i, e, I2, F⟩ := intOf_ok (W_bind.mp F) I1
  exact ⟨i, e, F Z1 ρ1 _ H1 l p (I2.dat (rd_int _)) trivial⟩
theorem i_chn {o1 o2 : Cop} {a b c : E} {σ : L2.St} {H : Hp} {Q : VK} (h : rdE cs cl fl K (.chn o1 o2 a b c) σ H Q) :
    tChain (rCmp K cs (cmpop o1)) (rCmp K cs (cmpop o2)) (rdE cs cl fl K a) (rdE cs cl fl K b) (rdE cs cl fl K c) σ H Q := by
  obtain ⟨Z, ρ, st, tm, I, F⟩ := h
  unfold Fit hd at F
  refine i_two I (W_bind.mp F |>.mono fun x s1 F => W_bind.mp F) fun x y s2 Z2 ρ2 v u H2 l p I2 hx hy F => ?_
  obtain ⟨pa, pb, w1, w2, F⟩ := looks2 I2 hx hy (W_bind.mp F |>.mono fun p s F => W_bind.mp F)
  obtain ⟨r, e, F⟩ := W_opt (W_bind.mp F)
  have I3 : In K cs Z2 ρ2 H2 s2 σ tm := I2.drops.drops
  refine ⟨Z2, ρ2, _, _, pa, pb, r, I3.rel, w1, w2, e, r, rfl, ?_⟩
  cases r with
  | false => exact F Z2 ρ2 _ H2 l p (I3.dat (rd_bl _)) trivial
  | true =>
    simp only [if_true] at F ⊢
    have I4 : In K cs Z2 ρ2 H2 s2 σ (hT y u ++ tm) := (I2.comm).drops
    refine ⟨Z2, ρ2, s2, hT y u ++ tm, I4, (W_bind.mp F).mono fun z s3 F Z3 ρ3 w H3 l3 p3 I5 hz => ?_⟩
    obtain ⟨pb, pc, w1, w2, F⟩ := looks2 I5 hy hz (W_bind.mp F |>.mono fun p s F => W_bind.mp F)
    obtain ⟨r, e, F⟩ := W_opt (W_bind.mp F)
    have I6 : In K cs Z3 ρ3 H3 s3 σ tm := I5.drops.drops
    exact ⟨Z3, ρ3, _, _, pb, pc, r, I6.rel, w1, w2, e, F Z3 ρ3 _ H3 (l.trans l3) (p.trans p3) (I6.dat (rd_bl _)) trivial⟩
/-- a test's reading gives way to a value's -/
theorem i_test {a : E} {σ : L2.St} {H : Hp} {Q : Bool → Hp → Prop} (h : rdT cs cl fl K a σ H Q) : rdE cs cl fl K a σ H fun x H1 => ∃ c, x = .bl c ∧ Q c H1 := by
  obtain ⟨Z, ρ, st, tm, I, F⟩ := h
  refine ⟨Z, ρ, st, tm, I, (W_bind.mp F).mono fun x s1 F Z1 ρ1 v H1 l p I1 hx => ?_⟩
  obtain ⟨b, e, I2, F⟩ := truth_ok F I1
  exact ⟨b, e, F Z1 ρ1 H1 l p I2⟩
theorem t_and {a b : E} {σ : L2.St} {H : Hp} {Q : Bool → Hp → Prop} (h : rdT cs cl fl K (.and a b) σ H Q) : tAnd (rdT cs cl fl K a) (rdT cs cl fl K b) σ H Q := by
  obtain ⟨Z, ρ, st, tm, I, F⟩ := h
  have F := W_bind.mp F
  unfold hd at F
  refine ⟨Z, ρ, st, tm, I, W_bind.mpr ((W_bind.mp F).mono fun x s1 F => (W_bind.mp F).mono fun c s2 F Z1 ρ1 H1 l p I1 => ?_)⟩
  cases c with
  | true => exact ⟨Z1, ρ1, s2, tm, I1, W_bind.mpr (F.mono fun x s F => F.mono fun b s F Z2 ρ2 H2 l2 p2 I2 => F Z2 ρ2 H2 (l.trans l2) (p.trans p2) I2)⟩
  | false => exact F Z1 ρ1 H1 l p I1
theorem t_or {a b : E} {σ : L2.St} {H : Hp} {Q : Bool → Hp → Prop} (h : rdT cs cl fl K (.or a b) σ H Q) : tOr (rdT cs cl fl K a) (rdT cs cl fl K b) σ H Q := by
  obtain ⟨Z, ρ, st, tm, I, F⟩ := h
  have F := W_bind.mp F
  unfold hd at F
  refine ⟨Z, ρ, st, tm, I, W_bind.mpr ((W_bind.mp F).mono fun x s1 F => (W_bind.mp F).mono fun c s2 F Z1 ρ1 H1 l p I1 => ?_)⟩
  cases c with
  | false => exact ⟨Z1, ρ1, s2, tm, I1, W_bind.mpr (F.mono fun x s F => F.mono fun b s F Z2 ρ2 H2 l2 p2 I2 => F Z2 ρ2 H2 (l.trans l2) (p.trans p2) I2)⟩
  | true => exact F Z1 ρ1 H1 l p I1
theorem t_not {a : E} {σ : L2.St} {H : Hp} {Q : Bool → Hp → Prop} (h : rdT cs cl fl K (.not a) σ H Q) : tNot (rdT cs cl fl K a) σ H Q := by
  obtain ⟨Z, ρ, st, tm, I, F⟩ := h
  have F := W_bind.mp F
  unfold hd at F
  exact ⟨Z, ρ, st, tm, I, W_bind.mpr ((W_bind.mp F).mono fun x s1 F => (W_bind.mp F).mono fun c s2 F => F)⟩
theorem t_ite {c a b : E} {σ : L2.St} {H : Hp} {Q : Bool → Hp → Prop} (h : rdT cs cl fl K (.ite c a b) σ H Q) : rdT cs cl fl K c σ H fun k H1 => if k = true then rdT cs cl fl K a σ H1 Q else rdT cs cl fl K b σ H1 Q := by
  obtain ⟨Z, ρ, st, tm, I, F⟩ := h
  have F := W_bind.mp F
  unfold hd at F
  refine ⟨Z, ρ, st, tm, I, W_bind.mpr ((W_bind.mp F).mono fun x s1 F => (W_bind.mp F).mono fun c s2 F Z1 ρ1 H1 l p I1 => ?_)⟩
  cases c with
  | true => exact ⟨Z1, ρ1, s2, tm, I1, W_bind.mpr (F.mono fun x s F => F.mono fun b s F Z2 ρ2 H2 l2 p2 I2 => F Z2 ρ2 H2 (l.trans l2) (p.trans p2) I2)⟩
  | false => exact ⟨Z1, ρ1, s2, tm, I1, W_bind.mpr (F.mono fun x s F => F.mono fun b s F Z2 ρ2 H2 l2 p2 I2 => F Z2 ρ2 H2 (l.trans l2) (p.trans p2) I2)⟩
theorem i_and {a b : E} {σ : L2.St} {H : Hp} {Q : VK} (h : rdE cs cl fl K (.and a b) σ H Q) : tAndV (rdE cs cl fl K a) (rdE cs cl fl K b) σ H Q := by
  obtain ⟨Z, ρ, st, tm, I, F⟩ := h
  unfold Fit hd at F
  refine ⟨Z, ρ, st, tm, I, (W_bind.mp F).mono fun x s1 F Z1 ρ1 v H1 l p I1 hx => ?_⟩
  obtain ⟨c, e, I2, F⟩ := truth_ok (W_bind.mp F) I1
  refine ⟨c, e, ?_⟩
  cases c with
  | true => exact ⟨Z1, ρ1, s1, tm, I2, F.mono fun y s2 F Z2 ρ2 v H2 l2 p2 I3 hy => F Z2 ρ2 v H2 (l.trans l2) (p.trans p2) I3 hy⟩
  | false => exact F Z1 ρ1 _ H1 l p (I2.dat (rd_bl _)) trivial
theorem i_or {a b : E} {σ : L2.St} {H : Hp} {Q : VK} (h : rdE cs cl fl K (.or a b) σ H Q) : tOrV (rdE cs cl fl K a) (rdE cs cl fl K b) σ H Q := by
  obtain ⟨Z, ρ, st, tm, I, F⟩ := h
  unfold Fit hd at F
  refine ⟨Z, ρ, st, tm, I, (W_bind.mp F).mono fun x s1 F Z1 ρ1 v H1 l p I1 hx => ?_⟩
  obtain ⟨c, e, I2, F⟩ := truth_ok (W_bind.mp F) I1
  refine ⟨c, e, ?_⟩
  cases c with
  | false => exact ⟨Z1, ρ1, s1, tm, I2, F.mono fun y s2 F Z2 ρ2 v H2 l2 p2 I3 hy => F Z2 ρ2 v H2 (l.trans l2) (p.trans p2) I3 hy⟩
  | true => exact F Z1 ρ1 _ H1 l p (I2.dat (rd_bl _)) trivial
theorem i_not {a : E} {σ : L2.St} {H : Hp} {Q : VK} (h : rdE cs cl fl K (.not a) σ H Q) : tNotV (rdE cs cl fl K a) σ H Q := by
  obtain ⟨Z, ρ, st, tm, I, F⟩ := h
  unfold Fit hd at F
  refine ⟨Z, ρ, st, tm, I, (W_bind.mp F).mono fun x s1 F Z1 ρ1 v H1 l p I1 hx => ?_⟩
  obtain ⟨c, e, I2, F⟩ := truth_ok (W_bind.mp F) I1
  exact ⟨c, e, F Z1 ρ1 _ H1 l p (I2.dat (rd_bl _)) trivial⟩
theorem i_ite {c a b : E} {σ : L2.St} {H : Hp} {Q : VK} (h : rdE cs cl fl K (.ite c a b) σ H Q) : tIf (rdT cs cl fl K c) (rdE cs cl fl K a) (rdE cs cl fl K b) σ H Q := by
  obtain ⟨Z, ρ, st, tm, I, F⟩ := h
  unfold Fit hd at F
  refine ⟨Z, ρ, st, tm, I, W_bind.mpr ((W_bind.mp F).mono fun x s1 F => (W_bind.mp F).mono fun c s2 F Z1 ρ1 H1 l p I1 => ?_)⟩
  cases c with
  | true => exact ⟨Z1, ρ1, s2, tm, I1, F.mono fun y s2 F Z2 ρ2 v H2 l2 p2 I3 hy => F Z2 ρ2 v H2 (l.trans l2) (p.trans p2) I3 hy⟩
  | false => exact ⟨Z1, ρ1, s2, tm, I1, F.mono fun y s2 F Z2 ρ2 v H2 l2 p2 I3 hy => F Z2 ρ2 v H2 (l.trans l2) (p.trans p2) I3 hy⟩
end
end Lw

set_option Elab.async false
set_option linter.all false
set_option maxRecDepth 100000
set_option maxHeartbeats 8000000
namespace Lw
open PySem L2 PySem.Spec PyProof.Rows
section
variable {g : Gm} {cs : Nat → Option Addr} {cl : Cl} {fl : Nat → List Bool} {N : List Str} {fp : Str → Bool} {sc : Scope} {X : Cx} {K : Fg}
variable {Z Z' H H' : Hp} {ρ ρ' : List Addr} {st : St} {σ : L2.St} {tm : List Th}
theorem stow_ok {b : Bool} {o : O} {v : V} {G : D → St → Prop} (h : W (stow b o st) G) (I : In K cs Z ρ H st σ ((o, some v) :: tm)) : ∃ Z' ρ' x st', Le Z Z' ∧ Px ρ ρ' ∧ In K cs Z' ρ' H st' σ tm ∧ RD K Z' ρ' x v ∧ G x st' := by
  have A : W (publ o st) G → ∃ Z' ρ' x st', Le Z Z' ∧ Px ρ ρ' ∧ In K cs Z' ρ' H st' σ tm ∧ RD K Z' ρ' x v ∧ G x st' := fun h => by
    obtain ⟨ρ', x, st', p, I', _, r, g⟩ := publ_ok h I
    exact ⟨Z, ρ', x, st', Le.refl _, p, I', r, g⟩
  have B : W (asD o st) G → ∃ Z' ρ' x st', Le Z Z' ∧ Px ρ ρ' ∧ In K cs Z' ρ' H st' σ tm ∧ RD K Z' ρ' x v ∧ G x st' := fun h => by
    obtain ⟨Z', x, l, I', r, g⟩ := asD_ok h I
    exact ⟨Z', ρ, x, st, l, Px.refl _, I', r, g⟩
  cases b with
  | false => exact B h
  | true =>
    cases o with
    | lst xs => cases xs <;> first | exact A h | exact B h
    | dct xs => cases xs <;> first | exact A h | exact B h
    | _ => exact B h
/-- displayed data -/
def rdV (cs : Nat → Option Addr) (cl : Cl) (fl : Nat → List Bool) (K : Fg) (es : E) : TA := fun σ H Q => ∃ Z ρ st tm, In K cs Z ρ H st σ tm ∧ W (evs cl fl es st) fun xs s' => ∀ Z' ρ' vs H', Le Z Z' → Px ρ ρ' → In K cs Z' ρ' H' s' σ tm → RDs K Z' ρ' xs vs → Q vs H'
theorem v_nil {Q : List V → Hp → Prop} (h : rdV cs cl fl K .nil σ H Q) : tNil σ H Q := by
  obtain ⟨Z, ρ, st, tm, I, F⟩ := h
  unfold evs at F
  exact F Z ρ [] H (Le.refl _) (Px.refl _) I .nil
theorem v_cons {e es : E} {Q : List V → Hp → Prop} (h : rdV cs cl fl K (.cons e es) σ H Q) : tCons (rdE cs cl fl K e) (rdV cs cl fl K es) σ H Q := by
  obtain ⟨Z, ρ, st, tm, I, F⟩ := h
  unfold evs at F
  refine ⟨Z, ρ, st, tm, I, (W_bind.mp F).mono fun x s1 F Z1 ρ1 v H1 l1 p1 I1 hx => ?_⟩
  obtain ⟨Z2, o, s2, l2, I2, F⟩ := take_ok (W_bind.mp F) I1 hx
  obtain ⟨Z3, ρ3, y, s3, l3, p3, I3, r3, F⟩ := stow_ok (W_bind.mp F) I2
  refine ⟨Z3, ρ3, s3, tm, I3, (W_bind.mp F).mono fun xs s4 F Z4 ρ4 vs H4 l4 p4 I4 r4 => ?_⟩
  exact F Z4 ρ4 _ H4 (l1.trans (l2.trans (l3.trans l4))) (p1.trans (p3.trans p4)) I4 (.cons (RD.mono l4 p4 _ _ r3) r4)
theorem i_tup {es : E} {Q : VK} (h : rdE cs cl fl K (.tup es) σ H Q) : tTup (rdV cs cl fl K es) σ H Q := by
  obtain ⟨Z, ρ, st, tm, I, F⟩ := h
  unfold Fit hd at F
  refine ⟨Z, ρ, st, tm, I, (W_bind.mp F).mono fun xs s1 F Z1 ρ1 vs H1 l1 p1 I1 r1 => ?_⟩
  split at F
  · rename_i hl
    refine ⟨by rw [← r1.length]; exact line_le hl, fun p hp => ?_⟩
    obtain ⟨l2, R⟩ := I1.rel.newT hp r1
    exact F _ ρ1 _ _ (l1.trans l2) p1 (I1.ans R) trivial
  · exact F.elim
theorem i_lst {es : E} {Q : VK} (h : rdE cs cl fl K (.lst es) σ H Q) : tLst (rdV cs cl fl K es) σ H Q := by
  obtain ⟨Z, ρ, st, tm, I, F⟩ := h
  unfold Fit hd at F
  refine ⟨Z, ρ, st, tm, I, (W_bind.mp F).mono fun xs s1 F Z1 ρ1 vs H1 l1 p1 I1 r1 => ?_⟩
  split at F
  · rename_i hl
    exact ⟨by rw [← r1.length]; exact line_le hl, fun p hp => F Z1 ρ1 _ _ l1 p1 (I1.ans (I1.rel.newL hp r1)) trivial⟩
  · exact F.elim
theorem i_idx {a b : E} {Q : VK} (h : rdE cs cl fl K (.idx a b) σ H Q) :
    tOp (fun x y H Q => ∃ Z ρ h ts a b r, Rel K cs [] Z ρ H h ts ∧ View K cs Z ρ H a x ∧ View K cs Z ρ H b y ∧ getIdx a b = some r ∧ ∀ v, RD K Z ρ r v → Q v H) (rdE cs cl fl K a) (rdE cs cl fl K b) σ H Q := by
  obtain ⟨Z, ρ, st, tm, I, F⟩ := h
  unfold Fit hd at F
  refine i_two I (W_bind.mp F |>.mono fun x s1 F => W_bind.mp F) fun x y s2 Z2 ρ2 v u H2 l p I2 hx hy F => ?_
  obtain ⟨pa, pb, w1, w2, F⟩ := looks2 I2 hx hy (W_bind.mp F |>.mono fun p s F => W_bind.mp F)
  obtain ⟨r, e, F⟩ := W_opt (W_bind.mp F)
  have I3 : In K cs Z2 ρ2 H2 s2 σ tm := I2.drops.drops
  exact ⟨Z2, ρ2, _, _, pa, pb, r, I3.rel, w1, w2, e, fun v r => F Z2 ρ2 v H2 l p (I3.dat r) trivial⟩
theorem p_nil {Q : Option Int → Hp → Prop} (h : rdP cs cl fl K .nil σ H Q) : tNoPart σ H Q := by
  obtain ⟨Z, ρ, st, tm, I, F⟩ := h
  unfold part at F
  exact F Z ρ H (Le.refl _) (Px.refl _) I
theorem p_one {e : E} {Q : Option Int → Hp → Prop} (h : rdP cs cl fl K (.one e) σ H Q) : tPart (rdE cs cl fl K e) σ H Q := by
  obtain ⟨Z, ρ, st, tm, I, F⟩ := h
  unfold part at F
  refine ⟨Z, ρ, st, tm, I, (W_bind.mp F).mono fun x s1 F Z1 ρ1 v H1 l1 p1 I1 hx => ?_⟩
  obtain ⟨i, e, I2, F⟩ := intOf_ok (W_bind.mp F) I1
  exact ⟨i, e, F Z1 ρ1 H1 l1 p1 I2⟩
theorem i_sl {a lo hi : E} {Q : VK} (h : rdE cs cl fl K (.sl a lo hi) σ H Q) :
    tSl (fun x l u H Q => ∃ Z ρ h ts a r, Rel K cs [] Z ρ H h ts ∧ View K cs Z ρ H a x ∧ getCut a l u = some r ∧ Ans K cs Z ρ h ts r Q) (rdE cs cl fl K a) (rdP cs cl fl K lo) (rdP cs cl fl K hi) σ H Q := by
  obtain ⟨Z, ρ, st, tm, I, F⟩ := h
  unfold Fit hd at F
  refine ⟨Z, ρ, st, tm, I, (W_bind.mp F).mono fun x s1 F Z1 ρ1 v H1 l1 p1 I1 hx => ⟨Z1, ρ1, s1, _, I1, (W_bind.mp F).mono fun lo s2 F Z2 ρ2 H2 l2 p2 I2 => ⟨Z2, ρ2, s2, _, I2, (W_bind.mp F).mono fun hi s3 F Z3 ρ3 H3 l3 p3 I3 => ?_⟩⟩⟩
  obtain ⟨pa, w1, F⟩ := look_ok (W_bind.mp F) I3 hx
  obtain ⟨r, e, F⟩ := W_opt (W_bind.mp F)
  have I4 : In K cs Z3 ρ3 H3 s3 σ tm := I3.drops
  exact ⟨Z3, ρ3, _, _, pa, r, I4.rel, w1, e, fun v H' Z' l' R => F Z' ρ3 v H' (l1.trans (l2.trans (l3.trans l'))) (p1.trans (p2.trans p3)) (I4.ans R) trivial⟩

/-! arguments of built-ins -/
theorem h_nil {Q : List V → Hp → Prop} (h : rdH cs cl fl K .nil σ H Q) : tNil σ H Q := by
  obtain ⟨Z, ρ, st, tm, I, F⟩ := h
  unfold hds at F
  exact F Z ρ [] H (Le.refl _) (Px.refl _) I rfl
theorem h_cons {e es : E} {Q : List V → Hp → Prop} (h : rdH cs cl fl K (.cons e es) σ H Q) : tCons (rdE cs cl fl K e) (rdH cs cl fl K es) σ H Q := by
  obtain ⟨Z, ρ, st, tm, I, F⟩ := h
  unfold hds at F
  refine ⟨Z, ρ, st, tm, I, (W_bind.mp F).mono fun x s1 F Z1 ρ1 v H1 l1 p1 I1 hx => ⟨Z1, ρ1, s1, _, I1, (W_bind.mp F).mono fun xs s2 F Z2 ρ2 vs H2 l2 p2 I2 hxs => ?_⟩⟩
  refine F Z2 ρ2 (v :: vs) H2 (l1.trans l2) (p1.trans p2) ?_ ⟨v, vs, rfl, hx, hxs⟩
  show In K cs Z2 ρ2 H2 s2 σ ((hTs xs vs ++ hT x v) ++ tm)
  rw [List.append_assoc]
  exact I2
theorem looks_ok : ∀ {xs : List Hd} {vs : List V} {tm : List Th} {G : List O → St → Prop}, W (looks xs st) G → In K cs Z ρ H st σ (hTs xs vs ++ tm) → hVs σ xs vs → ∃ os, Paired (View K cs Z ρ H) os vs ∧ G os st
  | [], vs, tm, G, h, I, hv => by
    have e : vs = [] := hv
    subst e
    exact ⟨[], .nil, h⟩
  | x :: xs, vs, tm, G, h, I, hv => by
    obtain ⟨v, r, e, h1, h2⟩ := hv
    subst e
    have I : In K cs Z ρ H st σ (hTs xs r ++ (hT x v ++ tm)) := by
      have := I
      show In K cs Z ρ H st σ (hTs xs r ++ (hT x v ++ tm))
      rw [← List.append_assoc]
      exact this
    obtain ⟨p, w, F⟩ := look_ok (W_bind.mp h) I.comm h1
    obtain ⟨os, w2, F⟩ := looks_ok (W_bind.mp F) I h2
    exact ⟨p :: os, .cons w w2, F⟩
theorem i_blt {b : Bi} {es : E} {Q : VK} (h : rdE cs cl fl K (.blt b es) σ H Q) : tCB (rBlt K cs (bltop b)) (rdH cs cl fl K es) σ H Q := by
  obtain ⟨Z, ρ, st, tm, I, F⟩ := h
  unfold Fit hd at F
  refine ⟨Z, ρ, st, tm, I, (W_bind.mp F).mono fun xs s1 F Z1 ρ1 vs H1 l1 p1 I1 hx => ?_⟩
  obtain ⟨os, w, F⟩ := looks_ok (W_bind.mp F) I1 hx
  obtain ⟨r, e, F⟩ := W_opt (W_bind.mp F)
  have I2 : In K cs Z1 ρ1 H1 s1 σ tm := I1.drops
  exact ⟨Z1, ρ1, _, _, os, r, I2.rel, w, e, fun v H' Z' l' R => F Z' ρ1 v H' (l1.trans l') p1 (I2.ans R) trivial⟩

/-! arguments of defs -/
theorem a_nil {ps : List Bool} {Q : List V → Hp → Prop} (h : rdO cs K (avs cl fl ps .nil) σ H Q) : tNil σ H Q := by
  obtain ⟨Z, ρ, st, tm, I, F⟩ := h
  unfold avs at F
  exact F Z ρ [] H (Le.refl _) (Px.refl _) rfl I
theorem a_cons {ps : List Bool} {e es : E} {Q : List V → Hp → Prop} (h : rdO cs K (avs cl fl ps (.cons e es)) σ H Q) : tCons (rdE cs cl fl K e) (rdO cs K (avs cl fl ps.tail es)) σ H Q := by
  obtain ⟨Z, ρ, st, tm, I, F⟩ := h
  unfold avs at F
  refine ⟨Z, ρ, st, tm, I, (W_bind.mp F).mono fun x s1 F Z1 ρ1 v H1 l1 p1 I1 hx => ?_⟩
  obtain ⟨Z2, ρ2, o, s2, l2, p2, I2, F⟩ := argM_ok (W_bind.mp F) I1 hx
  refine ⟨Z2, ρ2, s2, _, I2, (W_bind.mp F).mono fun os s3 F Z3 ρ3 vs H3 l3 p3 hl I3 => ?_⟩
  refine F Z3 ρ3 (v :: vs) H3 (l1.trans (l2.trans l3)) (p1.trans (p2.trans p3)) (by simp [hl]) ?_
  show In K cs Z3 ρ3 H3 s3 σ ((o, some v) :: (os.zip (vs.map some) ++ tm))
  exact I3.perm List.perm_middle
theorem i_call {f : Nat} {es : E} {n : Nat} {Q : VK} (hn : ∀ os h o h', cl.fn f os h = .ok o h' → os.length = n) (h : rdE cs cl fl K (.call f es) σ H Q) : tCallV K cs (cl.fn f) n (rdO cs K (avs cl fl (fl f) es)) σ H Q := by
  obtain ⟨Z, ρ, st, tm, I, F⟩ := h
  unfold Fit hd at F
  refine ⟨Z, ρ, st, tm, I, (W_bind.mp F).mono fun os s1 F Z1 ρ1 vs H1 l1 p1 hl I1 => ?_⟩
  cases hr : cl.fn f os s1.h with
  | bad => rw [hr] at F; exact F.elim
  | exc c v h => rw [hr] at F; exact F.elim
  | ok o h' =>
    rw [hr] at F
    refine ⟨by rw [← hl]; exact hn _ _ _ _ hr, Z1, ρ1, s1.h, os, s1.e.zip σ ++ tm, hl, I1.rel.perm (List.perm_append_comm_assoc _ _ _), ?_⟩
    rw [hr]
    intro Z2 ρ2 v H2 l2 p2 R
    exact F Z2 ρ2 v H2 (l1.trans l2) (p1.trans p2) (.back (st := ⟨s1.e, h'⟩) I1.len R) trivial

/-! methods of built-in types -/
theorem modL_ok {xh : Hd} {x : V} {f : List D → Option (List D × D)} {G : D → St → Prop} (h : W (modL xh f st) G) (I : In K cs Z ρ H st σ (hT xh x ++ tm)) (hv : hV xh σ x) :
    ∃ xs a vs ys r, x = .ref a ∧ H a = some (.lst vs) ∧ RDs K Z ρ xs vs ∧ f xs = some (ys, r) ∧ ∀ us, RDs K Z ρ ys us → ∃ s', G r s' ∧ In K cs Z ρ (upd H a (.lst us)) s' σ tm := by
  unfold modL at h
  split at h
  · rename_i k
    have hv : σ[k]? = some (some x) := hv
    split at h
    · rename_i xs hk
      split at h
      · rename_i ys r hf
        obtain ⟨a, vs, e, ha, r1, R⟩ := (I.rel.take hk hv).openL
        cases e
        have hi : k < st.e.length := (List.getElem?_eq_some_iff.mp hk).1
        refine ⟨xs, a, vs, ys, r, rfl, ha, r1, hf, fun us ru => ⟨_, h, ?_⟩⟩
        have R2 : Rel K cs [a] Z ρ (upd H a (.lst us)) st.h ((st.e.set k .hole).zip σ ++ tm) := R.set (List.mem_cons_self ..)
        exact ⟨by show (st.e.set k _).length = _; rw [set_len]; exact I.len, (R2.closeL upd_same ru).put hi hv⟩
      · exact h.elim
    · exact h.elim
  · rename_i n
    split at h
    · rename_i xs hn
      split at h
      · rename_i ys r hf
        have rd := In.rd (tm := tm) I
        unfold RD at rd
        obtain ⟨q, e1, e2⟩ := rd
        subst e2
        obtain ⟨a, vs, e, ha, r1, R⟩ := ((In.drop (tm := tm) I).rel.takeH hn e1).openL
        cases e
        have hi : n < st.h.length := (List.getElem?_eq_some_iff.mp hn).1
        refine ⟨xs, q, vs, ys, r, rfl, ha, r1, hf, fun us ru => ⟨_, h, ?_⟩⟩
        have R2 : Rel K cs [q] Z ρ (upd H q (.lst us)) (st.h.set n .hole) (st.e.zip σ ++ tm) := R.set (List.mem_cons_self ..)
        exact ⟨I.len, (R2.closeL upd_same ru).putH hi e1⟩
      · exact h.elim
    · exact h.elim
  · exact h.elim
theorem Rel.openK {A : List Addr} {h : List O} {ts : List Th} {ks : List (L2.Key × D)} {v : Option V} (R : Rel K cs A Z ρ H h ((.dct ks, v) :: ts)) :
    ∃ a ws, v = some (.ref a) ∧ H a = some (.dK ws) ∧ RDk K Z ρ ks ws ∧ Rel K cs (a :: A) Z ρ H h ts := by
  obtain ⟨f, x, R⟩ := R.uncons
  cases x with
  | dct e r => exact ⟨_, _, rfl, e, r, R⟩
theorem Rel.closeK {A : List Addr} {h : List O} {ts : List Th} {ks : List (L2.Key × D)} {a : Addr} {ws : List (L2.Key × V)} (R : Rel K cs (a :: A) Z ρ H h ts) (e : H a = some (.dK ws)) (r : RDk K Z ρ ks ws) :
    Rel K cs A Z ρ H h ((.dct ks, some (.ref a)) :: ts) := Rel.recons (f := [a]) R (.dct e r)
theorem modK_ok {xh : Hd} {x : V} {f : List (L2.Key × D) → Option (List (L2.Key × D))} {G : Unit → St → Prop} (h : W (modK xh f st) G) (I : In K cs Z ρ H st σ (hT xh x ++ tm)) (hv : hV xh σ x) :
    ∃ ks a ws ys, x = .ref a ∧ H a = some (.dK ws) ∧ RDk K Z ρ ks ws ∧ f ks = some ys ∧ ∀ us, RDk K Z ρ ys us → ∃ s', G () s' ∧ In K cs Z ρ (upd H a (.dK us)) s' σ tm := by
  unfold modK at h
  split at h
  · rename_i k
    have hv : σ[k]? = some (some x) := hv
    split at h
    · rename_i ks hk
      split at h
      · rename_i ys hf
        obtain ⟨a, ws, e, ha, r1, R⟩ := Rel.openK (I.rel.take hk hv)
        cases e
        have hi : k < st.e.length := (List.getElem?_eq_some_iff.mp hk).1
        refine ⟨ks, a, ws, ys, rfl, ha, r1, hf, fun us ru => ⟨_, h, ?_⟩⟩
        have R2 : Rel K cs [a] Z ρ (upd H a (.dK us)) st.h ((st.e.set k .hole).zip σ ++ tm) := R.set (List.mem_cons_self ..)
        exact ⟨by show (st.e.set k _).length = _; rw [set_len]; exact I.len, (Rel.closeK R2 upd_same ru).put hi hv⟩
      · exact h.elim
    · exact h.elim
  · rename_i n
    split at h
    · rename_i ks hn
      split at h
      · rename_i ys hf
        have rd := In.rd (tm := tm) I
        unfold RD at rd
        obtain ⟨q, e1, e2⟩ := rd
        subst e2
        obtain ⟨a, ws, e, ha, r1, R⟩ := Rel.openK ((In.drop (tm := tm) I).rel.takeH hn e1)
        cases e
        have hi : n < st.h.length := (List.getElem?_eq_some_iff.mp hn).1
        refine ⟨ks, q, ws, ys, rfl, ha, r1, hf, fun us ru => ⟨_, h, ?_⟩⟩
        have R2 : Rel K cs [q] Z ρ (upd H q (.dK us)) (st.h.set n .hole) (st.e.zip σ ++ tm) := R.set (List.mem_cons_self ..)
        exact ⟨I.len, (Rel.closeK R2 upd_same ru).putH hi e1⟩
      · exact h.elim
    · exact h.elim
  · exact h.elim
theorem recv_list {m : Mi} (hm : m ≠ .join ∧ m ≠ .get) {p : O} (h : recv m p = true) : ∃ xs, p = .lst xs := by
  cases m <;> cases p <;> first | exact ⟨_, rfl⟩ | exact absurd rfl hm.1 | exact absurd rfl hm.2 | (simp [recv] at h; done)
/-- o.append(e) -/
theorem i_app {o e : E} {Q : VK} (h : rdE cs cl fl K (.app o e) σ H Q) :
    tBM K "list" rAppend (rdE cs cl fl K o) (tCons (rdE cs cl fl K e) tNil) σ H Q := by
  obtain ⟨Z, ρ, st, tm, I, F⟩ := h
  unfold Fit hd at F
  refine ⟨Z, ρ, st, tm, I, (W_bind.mp F).mono fun x s1 F Z1 ρ1 v H1 l1 p1 I1 hx => ?_⟩
  obtain ⟨p, w, F⟩ := look_ok (W_bind.mp F) I1 hx
  split at F
  · rename_i hr
    obtain ⟨xs, ep⟩ := recv_list (by decide) hr
    subst ep
    obtain ⟨a, vs, e1, ha, r1⟩ := w
    refine ⟨by subst e1; exact .inl ⟨rfl, _, SqL.of ha⟩, Z1, ρ1, s1, _, I1, (W_bind.mp F).mono fun y s2 F Z2 ρ2 u H2 l2 p2 I2 hy => ?_⟩
    obtain ⟨Z3, o', s3, l3, I3, F⟩ := take_ok (W_bind.mp F) I2 hy
    obtain ⟨Z4, ρ4, d, s4, l4, p4, I4, r4, F⟩ := stow_ok (W_bind.mp F) I3
    obtain ⟨xs, a, vs, ys, r, ea, ha, r1, hf, k⟩ := modL_ok (W_bind.mp F) I4 hx
    unfold fApp at hf
    split at hf
    · rename_i hl
      cases hf
      obtain ⟨s5, F, I5⟩ := k (vs ++ [u]) (r1.append (.cons r4 .nil))
      exact ⟨a, vs, u, ea, rfl, ha, by rw [← r1.length]; exact of_decide_eq_true hl, F Z4 ρ4 _ _ (l1.trans (l2.trans (l3.trans l4))) (p1.trans (p2.trans p4)) (I5.dat rd_non) trivial⟩
    · cases hf
  · exact F.elim
theorem i_pop {o : E} {Q : VK} (h : rdE cs cl fl K (.mth .pop o .nil) σ H Q) : tBM0 K "list" rPop (rdE cs cl fl K o) σ H Q := by
  obtain ⟨Z, ρ, st, tm, I, F⟩ := h
  unfold Fit hd at F
  refine ⟨Z, ρ, st, tm, I, (W_bind.mp F).mono fun x s1 F Z1 ρ1 v H1 l1 p1 I1 hx => ?_⟩
  obtain ⟨p, w, F⟩ := look_ok (W_bind.mp F) I1 hx
  split at F
  · rename_i hr
    obtain ⟨xs, ep⟩ := recv_list (by decide) hr
    subst ep
    obtain ⟨a, vs, e1, ha, r1⟩ := w
    refine ⟨by subst e1; exact .inl ⟨rfl, _, SqL.of ha⟩, ?_⟩
    unfold hds at F
    have F := W_ret.mp (W_bind.mp F)
    have F := W_ret.mp (W_bind.mp F)
    simp only [mutop] at F
    obtain ⟨xs, a, vs, ys, r, ea, ha, r1, hf, k⟩ := modL_ok (W_bind.mp F) I1 hx
    unfold mPop at hf
    simp only at hf
    split at hf
    · rename_i d hd
      cases hf
      obtain ⟨u, hu, ru⟩ := r1.at hd
      obtain ⟨s5, F, I5⟩ := k vs.dropLast (by rw [List.dropLast_eq_take, List.dropLast_eq_take, r1.length]; exact r1.take _)
      exact ⟨a, vs, u, ea, rfl, ha, by rw [← r1.length]; exact hu, F Z1 ρ1 _ _ l1 p1 (I5.dat ru) trivial⟩
    · cases hf
  · exact F.elim
theorem RDs.erase : ∀ {xs : List D} {vs : List V} (i : Nat), RDs K Z ρ xs vs → RDs K Z ρ (xs.eraseIdx i) (vs.eraseIdx i)
  | [], vs, i, h => by unfold RDs at h; subst h; simp; exact .nil
  | x :: xs, vs, 0, h => by
    unfold RDs at h; obtain ⟨v, r, e, p, q⟩ := h
    subst e; exact q
  | x :: xs, vs, i + 1, h => by
    unfold RDs at h; obtain ⟨v, r, e, p, q⟩ := h
    subst e; exact .cons p (RDs.erase i q)
theorem RDs.set : ∀ {xs : List D} {vs : List V} (i : Nat) {x : D} {v : V}, RDs K Z ρ xs vs → RD K Z ρ x v → RDs K Z ρ (xs.set i x) (vs.set i v)
  | [], vs, i, x, v, h, k => by unfold RDs at h; subst h; simp; exact .nil
  | y :: xs, vs, 0, x, v, h, k => by
    unfold RDs at h; obtain ⟨u, r, e, p, q⟩ := h
    subst e; exact .cons k q
  | y :: xs, vs, i + 1, x, v, h, k => by
    unfold RDs at h; obtain ⟨u, r, e, p, q⟩ := h
    subst e; exact .cons p (RDs.set i q k)
theorem i_popAt {o e : E} {Q : VK} (h : rdE cs cl fl K (.mth .popAt o (.cons e .nil)) σ H Q) : tBM K "list" rPopAt (rdE cs cl fl K o) (rdH cs cl fl K (.cons e .nil)) σ H Q := by
  obtain ⟨Z, ρ, st, tm, I, F⟩ := h
  unfold Fit hd at F
  refine ⟨Z, ρ, st, tm, I, (W_bind.mp F).mono fun x s1 F Z1 ρ1 v H1 l1 p1 I1 hx => ?_⟩
  obtain ⟨p, w, F⟩ := look_ok (W_bind.mp F) I1 hx
  split at F
  · rename_i hr
    obtain ⟨xs, ep⟩ := recv_list (by decide) hr
    subst ep
    obtain ⟨a, vs, e1, ha, r1⟩ := w
    refine ⟨by subst e1; exact .inl ⟨rfl, _, SqL.of ha⟩, Z1, ρ1, s1, _, I1, (W_bind.mp F).mono fun ys s2 F Z2 ρ2 us H2 l2 p2 I2 hy => ?_⟩
    obtain ⟨os, w2, F⟩ := looks_ok (W_bind.mp F) I2 hy
    obtain ⟨xs, a, vs, zs, r, ea, ha, r1, hf, k⟩ := modL_ok (W_bind.mp F) I2.drops hx
    unfold mPopAt at hf
    split at hf
    · split at hf
      · rename_i i hc
        simp only [Bool.and_eq_true, decide_eq_true_eq] at hc
        obtain ⟨u0, eu, wu⟩ := Paired.one w2
        subst eu
        split at hf
        · rename_i j hj
          split at hf
          · rename_i d hd
            cases hf
            obtain ⟨u, hu, ru⟩ := r1.at hd
            obtain ⟨s5, F, I5⟩ := k (vs.eraseIdx j) (r1.erase j)
            exact ⟨a, vs, i, j, u, ea, by rw [wu.rd.int], ha, hc.1, hc.2, by rw [← r1.length]; exact hj, hu, F Z2 ρ2 _ _ (l1.trans l2) (p1.trans p2) (I5.dat ru) trivial⟩
          · cases hf
        · cases hf
      · cases hf
    · cases hf
  · exact F.elim
theorem i_join {o e : E} {Q : VK} (h : rdE cs cl fl K (.mth .join o (.cons e .nil)) σ H Q) :
    tBM K "str" (fun x xs H Q => ∃ a p, ∃ ys : List Str, x = .str a ∧ xs = [.ref p] ∧ (SqL K H p (ys.map V.str) ∨ SqT K H p (ys.map V.str)) ∧ (ys.map (·.length)).sum + ys.length * a.length ≤ 16777216 ∧ Q (.str (Txt.join a ys)) H) (rdE cs cl fl K o) (rdH cs cl fl K (.cons e .nil)) σ H Q := by
  obtain ⟨Z, ρ, st, tm, I, F⟩ := h
  unfold Fit hd at F
  refine ⟨Z, ρ, st, tm, I, (W_bind.mp F).mono fun x s1 F Z1 ρ1 v H1 l1 p1 I1 hx => ?_⟩
  obtain ⟨p, w, F⟩ := look_ok (W_bind.mp F) I1 hx
  split at F
  · rename_i hr
    have ep : ∃ z, p = .d (.str z) := by
      cases p with
      | d x => cases x <;> first | (simp [recv] at hr; done) | exact ⟨_, rfl⟩
      | _ => simp [recv] at hr
    obtain ⟨z, ep⟩ := ep
    subst ep
    refine ⟨by rw [w.rd.str]; rfl, Z1, ρ1, s1, _, I1, (W_bind.mp F).mono fun ys s2 F Z2 ρ2 us H2 l2 p2 I2 hy => ?_⟩
    obtain ⟨os, w2, F⟩ := looks_ok (W_bind.mp F) I2 hy
    obtain ⟨q, w3, F⟩ := look_ok (W_bind.mp F) I2.drops hx
    obtain ⟨r, e1, F⟩ := W_opt (W_bind.mp F)
    unfold tellop mJoin at e1
    simp only at e1
    split at e1
    · obtain ⟨u0, eu, wu⟩ := Paired.one w2
      subst eu
      split at e1
      · rename_i xs hs
        obtain ⟨b, ws, e2, hb, r2⟩ := wu.sv I2.rel.le hs
        split at e1
        · rename_i zs hz
          obtain ⟨h1, h2⟩ := strs_rel hz r2
          split at e1
          · rename_i hl
            cases e1
            refine ⟨_, b, zs, w3.rd.str, by rw [e2], by rw [← h2]; exact hb, of_decide_eq_true hl, ?_⟩
            rw [TL.join_eq]
            exact F Z2 ρ2 _ _ (l1.trans l2) (p1.trans p2) (I2.drops.drops.dat (rd_str _)) trivial
          · cases e1
        · cases e1
      · cases e1
    · cases e1
  · exact F.elim
end
end Lw

set_option Elab.async false
set_option linter.all false
set_option maxRecDepth 100000
set_option maxHeartbeats 8000000
/-! Lw, part 7: targets, walks, comprehensions -/
namespace Lw
open PySem L2 PySem.Spec PyProof.Rows
/-- other slots stay -/
def Sm (L : List Nat) (σ σ' : L2.St) : Prop := σ'.length = σ.length ∧ ∀ k, k ∉ L → σ'[k]? = σ[k]?
theorem Sm.refl (L : List Nat) (σ : L2.St) : Sm L σ σ := ⟨rfl, fun _ _ => rfl⟩
theorem Sm.trans {L M : List Nat} {a b c : L2.St} (h : Sm L a b) (k : Sm M b c) : Sm (L ++ M) a c :=
  ⟨k.1.trans h.1, fun i hi => (k.2 i fun z => hi (List.mem_append_right _ z)).trans (h.2 i fun z => hi (List.mem_append_left _ z))⟩
section
variable {g : Gm} {cs : Nat → Option Addr} {cl : Cl} {fl : Nat → List Bool} {N : List Str} {fp : Str → Bool} {sc : Scope} {X : Cx} {K : Fg}
variable {Z Z' H H' : Hp} {ρ ρ' : List Addr} {st : St} {σ σ' : L2.St} {tm : List Th}
def rdG (cs : Nat → Option Addr) (cl : Cl) (fl : Nat → List Bool) (K : Fg) (e : E) : TG := fun v σ H Q => ∃ Z ρ st tm o, In K cs Z ρ H st σ ((o, some v) :: tm) ∧ W (asg cl fl e o st) fun _ s' => ∀ Z' ρ' σ' H', Le Z Z' → Px ρ ρ' → Sm (tgv e) σ σ' → In K cs Z' ρ' H' s' σ' tm → Q σ' H'
def rdGs (cs : Nat → Option Addr) (cl : Cl) (fl : Nat → List Bool) (K : Fg) (e : E) : TGs := fun vs σ H Q => ∃ Z ρ st tm xs, In K cs Z ρ H st σ tm ∧ RDs K Z ρ xs vs ∧ W (asgs cl fl e xs st) fun _ s' => ∀ Z' ρ' σ' H', Le Z Z' → Px ρ ρ' → Sm (tgv e) σ σ' → In K cs Z' ρ' H' s' σ' tm → Q σ' H'
theorem zip_set2 {α β : Type} : ∀ (xs : List α) (ys : List β) (i : Nat) (a : α) (b : β), (xs.set i a).zip (ys.set i b) = (xs.zip ys).set i (a, b)
  | [], ys, i, a, b => by simp
  | x :: xs, [], i, a, b => by cases i <;> simp
  | x :: xs, y :: ys, 0, a, b => rfl
  | x :: xs, y :: ys, i + 1, a, b => by
    simp only [List.set_cons_succ, List.zip_cons_cons]
    rw [zip_set2 xs ys i a b]
/-- a slot's thing goes out, another one comes in (with its value) -/
theorem In.put2 {i : Nat} {o : O} {v : Option V} (I : In K cs Z ρ H st σ ((o, v) :: tm)) (hi : i < st.e.length) : In K cs Z ρ H { st with e := st.e.set i o } (σ.set i v) ((st.e.getD i .hole, σ.getD i none) :: tm) := by
  refine ⟨by show (st.e.set i o).length = _; rw [set_len, List.length_set]; exact I.len, ?_⟩
  have hs : i < σ.length := by rw [← I.len]; exact hi
  have e1 : st.e[i]? = some (st.e.getD i .hole) := by rw [List.getD_eq_getElem?_getD, List.getElem?_eq_getElem hi]; rfl
  have e2 : σ[i]? = some (σ.getD i none) := by rw [List.getD_eq_getElem?_getD, List.getElem?_eq_getElem hs]; rfl
  refine I.rel.perm ?_
  show (st.e.zip σ ++ (o, v) :: tm).Perm ((st.e.set i o).zip (σ.set i v) ++ (st.e.getD i .hole, σ.getD i none) :: tm)
  rw [zip_set2]
  refine List.perm_middle.trans (List.Perm.trans ?_ List.perm_middle.symm)
  exact (perm_set (o, v) (zip_at e1 e2)).append_right tm
theorem In.assign {i : Nat} {o : O} {v : V} (I : In K cs Z ρ H st σ ((o, some v) :: tm)) (hi : i < st.e.length) : In K cs Z ρ H { st with e := st.e.set i o } (σ.set i (some v)) tm := (I.put2 hi).drop
theorem Sm.set (i : Nat) (v : Option V) (σ : L2.St) : Sm [i] σ (σ.set i v) := ⟨List.length_set, fun k hk => by rw [List.getElem?_set_ne (fun e => hk (by rw [e]; exact List.mem_singleton_self _))]⟩
theorem g_var {i : Nat} {v : V} {Q : L2.St → Hp → Prop} (h : rdG cs cl fl K (.var i) v σ H Q) : gName i v σ H Q := by
  obtain ⟨Z, ρ, st, tm, o, I, F⟩ := h
  unfold asg at F
  split at F
  · rename_i hi
    exact F Z ρ _ H (Le.refl _) (Px.refl _) (Sm.set _ _ _) (I.assign (of_decide_eq_true hi))
  · exact F.elim
theorem gs_nil {vs : List V} {Q : L2.St → Hp → Prop} (h : rdGs cs cl fl K .nil vs σ H Q) : gNil vs σ H Q := by
  obtain ⟨Z, ρ, st, tm, xs, I, r, F⟩ := h
  cases xs with
  | nil =>
    unfold RDs at r
    unfold asgs at F
    exact ⟨r, F Z ρ σ H (Le.refl _) (Px.refl _) (Sm.refl _ _) I⟩
  | cons x xs => unfold asgs at F; exact F.elim
theorem gs_cons {e es : E} {vs : List V} {Q : L2.St → Hp → Prop} (h : rdGs cs cl fl K (.cons e es) vs σ H Q) : gCons (rdG cs cl fl K e) (rdGs cs cl fl K es) vs σ H Q := by
  obtain ⟨Z, ρ, st, tm, xs, I, r, F⟩ := h
  cases xs with
  | nil => unfold asgs at F; exact F.elim
  | cons x xs =>
    unfold asgs at F
    unfold RDs at r
    obtain ⟨v, us, e1, r1, r2⟩ := r
    refine ⟨v, us, e1, Z, ρ, st, tm, .d x, I.dat r1, (W_bind.mp F).mono fun _ s1 F Z1 ρ1 σ1 H1 l1 p1 m1 I1 => ?_⟩
    exact ⟨Z1, ρ1, s1, tm, xs, I1, RDs.mono l1 p1 _ _ r2, F.mono fun _ s2 F Z2 ρ2 σ2 H2 l2 p2 m2 I2 => F Z2 ρ2 σ2 H2 (l1.trans l2) (p1.trans p2) (m1.trans m2) I2⟩
/-- a tuple or a list of that length -/
def gTupA (K : Fg) (n : Nat) (t : TGs) : TG := fun v σ H Q => ∃ a xs, v = .ref a ∧ (SqT K H a xs ∨ SqL K H a xs) ∧ xs.length = n ∧ t xs σ H Q
theorem g_tup {es : E} {n : Nat} {v : V} {Q : L2.St → Hp → Prop} (hn : ∀ xs s G, W (asgs cl fl es xs s) G → xs.length = n) (h : rdG cs cl fl K (.tup es) v σ H Q) : gTupA K n (rdGs cs cl fl K es) v σ H Q := by
  obtain ⟨Z, ρ, st, tm, o, I, F⟩ := h
  unfold asg at F
  obtain ⟨xs, e, F⟩ := W_opt (W_bind.mp F)
  unfold unpk at e
  split at e
  · cases e
    obtain ⟨a, vs, ev, s, r⟩ := I.rd.tup
    exact ⟨a, vs, ev, .inl (I.rel.le.sqT s), by rw [← r.length]; exact hn _ _ _ F, Z, ρ, st, tm, xs, I.drop, r, F⟩
  · cases e
    obtain ⟨a, vs, ev, s, r⟩ := I.rd.lst
    exact ⟨a, vs, ev, .inr (SqL.of (I.rel.le _ _ s)), by rw [← r.length]; exact hn _ _ _ F, Z, ρ, st, tm, xs, I.drop, r, F⟩
  · cases e
    obtain ⟨a, vs, ev, s, r, _⟩ := I.front.openL
    cases ev
    exact ⟨a, vs, rfl, .inr (SqL.of s), by rw [← r.length]; exact hn _ _ _ F, Z, ρ, st, tm, xs, I.drop, r, F⟩
  · cases e
theorem asgs_len : ∀ {es : E} {xs : List D} {s : St} {G : Unit → St → Prop} {ys : List Expr}, mtGs g N fp sc es ys = true → W (asgs cl fl es xs s) G → xs.length = ys.length
  | .nil, [], s, G, [], m, h => rfl
  | .nil, x :: xs, s, G, ys, m, h => by unfold asgs at h; exact h.elim
  | .nil, [], s, G, y :: ys, m, h => by simp [mtGs] at m
  | .cons e es, [], s, G, ys, m, h => by unfold asgs at h; exact h.elim
  | .cons e es, x :: xs, s, G, [], m, h => by simp [mtGs] at m
  | .cons e es, x :: xs, s, G, y :: ys, m, h => by
    unfold asgs at h
    simp only [mtGs, Bool.and_eq_true] at m
    obtain ⟨a, s1, e1, F⟩ := W_ok (W_bind.mp h)
    rw [List.length_cons, List.length_cons, asgs_len (es := es) m.2 F]
theorem g_idx {a b : E} {v : V} {Q : L2.St → Hp → Prop} (h : rdG cs cl fl K (.idx a b) v σ H Q) : gSub (rdE cs cl fl K a) (rdE cs cl fl K b) (fun o i v H Q => rSetL o i v H Q ∨ rSetD o i v H Q) v σ H Q := by
  obtain ⟨Z, ρ, st, tm, o, I, F⟩ := h
  unfold asg at F
  refine i_two I (W_bind.mp F |>.mono fun x s1 F => W_bind.mp F) fun x y s2 Z2 ρ2 u w H2 l p I2 hx hy F => ?_
  unfold setI at F
  split at F
  · rename_i i
    have e : w = .int i := (In.rd (tm := hT x u ++ ((o, some v) :: tm)) I2).int
    have I3 : In K cs Z2 ρ2 H2 s2 σ (hT x u ++ ((o, some v) :: tm)) := In.drop I2
    have I4 : In K cs Z2 ρ2 H2 s2 σ ((o, some v) :: (hT x u ++ tm)) := I3.perm List.perm_middle
    obtain ⟨Z5, d, l5, I5, r5, F⟩ := asD_ok (W_bind.mp F) I4
    obtain ⟨xs, q, vs, ys, r, eq, hq, r1, hf, k⟩ := modL_ok (W_bind.mp F) I5 hx
    unfold fSet at hf
    split at hf
    · rename_i j hj
      cases hf
      obtain ⟨s6, F, I6⟩ := k (vs.set j v) (r1.set j r5)
      exact .inl ⟨q, vs, i, j, eq, e, hq, by rw [← r1.length]; exact hj, F Z5 ρ2 σ _ (l.trans l5) p (Sm.refl _ _) I6⟩
    · cases hf
  · rename_i z
    have e : w = .str z := (In.rd (tm := hT x u ++ ((o, some v) :: tm)) I2).str
    have I3 : In K cs Z2 ρ2 H2 s2 σ (hT x u ++ ((o, some v) :: tm)) := In.drop I2
    have I4 : In K cs Z2 ρ2 H2 s2 σ ((o, some v) :: (hT x u ++ tm)) := I3.perm List.perm_middle
    obtain ⟨Z5, d, l5, I5, r5, F⟩ := asD_ok (W_bind.mp F) I4
    obtain ⟨ks, q, ws, ys, eq, hq, r1, hf, k⟩ := modK_ok F I5 hx
    unfold fPut at hf
    split at hf
    · rename_i hl
      cases hf
      obtain ⟨s6, F, I6⟩ := k (putK ws (.inr z) v) (r1.put _ r5)
      refine .inr ⟨q, _, eq, ?_, F Z5 ρ2 σ _ (l.trans l5) p (Sm.refl _ _) I6⟩
      rw [e]
      show DPut H2 q (kV (.inr z)) v _
      exact DPut.k hq (by rw [← r1.length]; exact of_decide_eq_true hl)
    · cases hf
  · exact F.elim

/-! ### what a for walks -/
structure ItOk (K : Fg) (Z : Hp) (ρ : List Addr) (J : It) (xs : List D) : Prop where
  go : ∀ i H, Le Z H → i < xs.length → J.go i H
  stop : ∀ i H, Le Z H → xs.length ≤ i → J.stop i H
  yld : ∀ i H x H' d, Le Z H → J.yld i H x H' → xs[i]? = some d → (H' = H ∧ RD K Z ρ d x) ∨ ∃ p ds vs, d = .tup ds ∧ x = .ref p ∧ H p = none ∧ H' = upd H p (.tup vs) ∧ RDs K Z ρ ds vs
def rdI (cs : Nat → Option Addr) (cl : Cl) (fl : Nat → List Bool) (K : Fg) (e : E) : TI := fun σ H R => ∃ Z ρ st tm, In K cs Z ρ H st σ tm ∧ W (its cl fl e st) fun xs s' => ∀ Z' ρ' H' J, Le Z Z' → Px ρ ρ' → In K cs Z' ρ' H' s' σ tm → ItOk K Z' ρ' J xs → R J H'
theorem itl_ok {a : Addr} {vs : List V} {xs : List D} (h : Z a = some (.lst vs)) (r : RDs K Z ρ xs vs) : ItOk K Z ρ (Itl K a) xs where
  go := fun i H l hi => ⟨vs, vs[i]'(by rw [← r.length]; exact hi), SqL.of (l _ _ h), List.getElem?_eq_getElem _⟩
  stop := fun i H l hi => ⟨vs, SqL.of (l _ _ h), by rw [← r.length]; exact hi⟩
  yld := fun i H x H' d l y hd => by
    obtain ⟨e, k⟩ := y
    obtain ⟨u, h1, h2⟩ := r.at hd
    have := k vs (SqL.of (l _ _ h))
    rw [h1] at this
    cases this
    exact .inl ⟨e, h2⟩
theorem itt_ok {a : Addr} {vs : List V} {xs : List D} (h : SqT K Z a vs) (r : RDs K Z ρ xs vs) : ItOk K Z ρ (Itt K a) xs where
  go := fun i H l hi => ⟨vs, vs[i]'(by rw [← r.length]; exact hi), l.sqT h, List.getElem?_eq_getElem _⟩
  stop := fun i H l hi => ⟨vs, l.sqT h, by rw [← r.length]; exact hi⟩
  yld := fun i H x H' d l y hd => by
    obtain ⟨e, k⟩ := y
    obtain ⟨u, h1, h2⟩ := r.at hd
    have := k vs (l.sqT h)
    rw [h1] at this
    cases this
    exact .inl ⟨e, h2⟩
theorem its_ok (x : Str) : ItOk K Z ρ (Its x) (signs x) where
  go := fun i H l hi => by
    have : i < (signs x).length := hi
    unfold signs at this
    rw [List.length_map, Array.length_toList] at this
    exact this
  stop := fun i H l hi => by
    have : (signs x).length ≤ i := hi
    unfold signs at this
    rw [List.length_map, Array.length_toList] at this
    exact this
  yld := fun i H v H' d l y hd => by
    obtain ⟨e, c, hc, ev⟩ := y
    unfold signs at hd
    rw [List.getElem?_map, Array.getElem?_toList, hc] at hd
    cases hd
    exact .inl ⟨e, by rw [ev]; exact rd_str _⟩
theorem rng_at {lo : Int} {n i : Nat} {d : D} (h : (rngD lo n)[i]? = some d) : d = .int (lo + (i : Int)) := by
  unfold rngD at h
  rw [List.getElem?_map] at h
  cases e : (List.range n)[i]? with
  | none => rw [e] at h; cases h
  | some j =>
    rw [e] at h
    have := List.getElem?_range (n := n) (i := i) (by
      have := (List.getElem?_eq_some_iff.mp e).1
      rwa [List.length_range] at this)
    rw [this] at e
    cases e
    cases h
    rfl
theorem rng_len (lo : Int) (n : Nat) : (rngD lo n).length = n := by unfold rngD; rw [List.length_map, List.length_range]
theorem itr_ok (lo : Int) (n : Nat) : ItOk K Z ρ (Itr lo n) (rngD lo n) where
  go := fun i H l hi => by rw [rng_len] at hi; exact hi
  stop := fun i H l hi => by rw [rng_len] at hi; exact hi
  yld := fun i H v H' d l y hd => by
    obtain ⟨e, ev⟩ := y
    exact .inl ⟨e, by rw [ev, rng_at hd]; exact rd_int _⟩
theorem rngOk_of {i : Int} (h : rngOk i = true) : -(2 ^ 62) ≤ i ∧ i < 2 ^ 62 := by
  unfold rngOk at h
  simp only [Bool.and_eq_true, decide_eq_true_eq] at h
  exact h
theorem r_seq {tg x : Expr} {a : E} (ha : PE X x (rdE cs cl fl X.K a)) : PI X tg x (rdI cs cl fl X.K (.seq a)) := by
  refine ⟨fun pins s σ H R I h => ?_⟩
  obtain ⟨Z, ρ, st, tm, J, F⟩ := h
  unfold its at F
  have F := W_bind.mp F
  -- what comes is known ahead
  obtain ⟨x1, s1, e1, F1⟩ := W_ok F
  obtain ⟨o, s2, e2, F2⟩ := W_ok (W_bind.mp F1)
  obtain ⟨y, s3, e3, F3⟩ := W_ok (W_bind.mp F2)
  obtain ⟨xs, e4, F4⟩ := W_opt F3
  have main : ∀ v H1 Z1 ρ1, Le Z Z1 → Px ρ ρ1 → In X.K cs Z1 ρ1 H1 s1 σ (hT x1 v ++ tm) → hV x1 σ v → ∃ Z2, Le Z1 Z2 ∧ In X.K cs Z2 ρ1 H1 s3 σ tm ∧ RD X.K Z2 ρ1 y v := by
    intro v H1 Z1 ρ1 l1 p1 I1 hx
    obtain ⟨Z2, o', s2', l2, I2, eo⟩ := take_ok (G := fun a s => a = o ∧ s = s2) (by rw [e2]; exact ⟨rfl, rfl⟩) I1 hx
    obtain ⟨rfl, rfl⟩ := eo
    obtain ⟨Z3, y', l3, I3, r3, ey⟩ := asD_ok (G := fun a s => a = y ∧ s = s3) (by rw [e3]; exact ⟨rfl, rfl⟩) I2
    obtain ⟨rfl, rfl⟩ := ey
    exact ⟨Z3, l2.trans l3, I3, r3⟩
  have start : ∀ (Q : VK), (∀ v H1 Z1 ρ1, Le Z Z1 → Px ρ ρ1 → In X.K cs Z1 ρ1 H1 s3 σ tm → RD X.K Z1 ρ1 y v → Q v H1) → rdE cs cl fl X.K a σ H Q := fun Q q => ⟨Z, ρ, st, tm, J, by
    unfold Fit; rw [e1]
    intro Z1 ρ1 v H1 l1 p1 I1 hx
    obtain ⟨Z2, l2, I2, r2⟩ := main v H1 Z1 ρ1 l1 p1 I1 hx
    exact q v H1 Z2 ρ1 (l1.trans l2) p1 I2 r2⟩
  unfold itsOf at e4
  split at e4
  · rename_i zs he
    cases he; cases e4
    refine (pi_tup ha).run pins s σ H R I (start _ fun v H1 Z1 ρ1 l1 p1 I1 r1 => ?_)
    obtain ⟨q, vs, ev, hq, rs⟩ := r1.tup
    exact ⟨q, ev, ⟨vs, I1.rel.le.sqT hq⟩, F4 Z1 ρ1 H1 _ l1 p1 I1 (itt_ok hq rs)⟩
  · rename_i zs he
    cases he; cases e4
    refine (pi_list ha).run pins s σ H R I (start _ fun v H1 Z1 ρ1 l1 p1 I1 r1 => ?_)
    obtain ⟨q, vs, ev, hq, rs⟩ := r1.lst
    exact ⟨q, ev, ⟨vs, SqL.of (I1.rel.le _ _ hq)⟩, F4 Z1 ρ1 H1 _ l1 p1 I1 (itl_ok hq rs)⟩
  · rename_i z he
    cases he; cases e4
    refine (pi_str ha).run pins s σ H R I (start _ fun v H1 Z1 ρ1 l1 p1 I1 r1 => ?_)
    exact ⟨z, r1.str, F4 Z1 ρ1 H1 _ l1 p1 I1 (its_ok z)⟩
  · cases e4
theorem r_rng1 {a : E} {R : It → Hp → Prop} (h : rdI cs cl fl K (.rng1 a) σ H R) : iRng1 (rdH cs cl fl K (.cons a .nil)) σ H R := by
  obtain ⟨Z, ρ, st, tm, I, F⟩ := h
  unfold its at F
  refine ⟨Z, ρ, st, tm, I, ?_⟩
  unfold hds hds
  refine W_bind.mpr ((W_bind.mp F).mono fun x s1 F Z1 ρ1 vs H1 l1 p1 I1 hx => ?_)
  obtain ⟨v, r, e, h1, h2⟩ := hx
  have h2 : r = [] := h2
  subst h2; subst e
  have I1 : In K cs Z1 ρ1 H1 s1 σ (hT x v ++ tm) := I1
  obtain ⟨i, e, I2, F⟩ := intOf_ok (W_bind.mp F) I1
  split at F
  · rename_i hi
    obtain ⟨h3, h4⟩ := rngOk_of hi
    exact ⟨i, by rw [e], h3, h4, F Z1 ρ1 H1 _ l1 p1 I2 (itr_ok 0 i.toNat)⟩
  · exact F.elim
theorem r_rng2 {a b : E} {R : It → Hp → Prop} (h : rdI cs cl fl K (.rng2 a b) σ H R) : iRng2 (rdH cs cl fl K (.cons a (.cons b .nil))) σ H R := by
  obtain ⟨Z, ρ, st, tm, I, F⟩ := h
  unfold its at F
  refine ⟨Z, ρ, st, tm, I, ?_⟩
  unfold hds hds hds
  refine W_bind.mpr ((W_bind.mp F).mono fun x s1 F => W_bind.mpr (W_bind.mpr ((W_bind.mp F).mono fun y s2 F Z1 ρ1 vs H1 l1 p1 I1 hx => ?_)))
  obtain ⟨v, r, e, h1, u, r2, e2, h2, h3⟩ := hx
  have h3 : r2 = [] := h3
  subst h3; subst e2; subst e
  have I1 : In K cs Z1 ρ1 H1 s2 σ (hT y u ++ (hT x v ++ tm)) := by
    have := I1
    show In K cs Z1 ρ1 H1 s2 σ (hT y u ++ (hT x v ++ tm))
    rw [← List.append_assoc]
    exact this
  obtain ⟨i, e, I2, F⟩ := intOf_ok (W_bind.mp F) I1.comm
  obtain ⟨j, e2, I3, F⟩ := intOf_ok (W_bind.mp F) I2
  split at F
  · rename_i hi
    simp only [Bool.and_eq_true] at hi
    obtain ⟨h3, h4⟩ := rngOk_of hi.1
    obtain ⟨h5, h6⟩ := rngOk_of hi.2
    exact ⟨i, j, by rw [e, e2], ⟨h3, h4, h5, h6⟩, F Z1 ρ1 H1 _ l1 p1 I3 (itr_ok i (j - i).toNat)⟩
  · exact F.elim
end
end Lw

set_option Elab.async false
set_option linter.all false
set_option maxRecDepth 100000
set_option maxHeartbeats 4000000
/-! Lw: dicts: made, stored into, asked -/
namespace Lw
open PySem L2 PySem.Spec PyProof.Rows
/-- d.m(e, ..), d a dict -/
def tBMD (r : V → List V → Hp → VK → Prop) (to : TE) (t : TA) : TE := fun σ H Q => to σ H fun x H1 => (∃ a, x = .ref a ∧ IsD H1 a) ∧ t σ H1 fun xs H2 => r x xs H2 Q
theorem pe_bmD {X : Cx} {o e : Expr} {es : List Expr} {to : TE} {t : TA} {name : Str} {apos cpos : Pos} {id : String} {r : V → List V → Hp → VK → Prop} (slot : Slot "dict" name id) (hty : typeOf (.builtin id) = pure (.type "method_descriptor")) (hm : MtR X id r) (ho : PE X o to) (ha : PA X (e :: es) t)
    (hbase : attributeBase o name X.env (eval o X.env) = eval o X.env := by rfl)
    (hfew : ((backTo cpos (starEach (e :: es) X.env)).all (fun x => !x.1) && (backToKw cpos (keywordEach [] X.env)).all (fun x => x.1.isSome)
      && decide ((e :: es).length + ([] : List Keyword).length + (if ([] : List Keyword).isEmpty then 0 else 1) < 30)) = true := by rfl)
    (hline : (apos.endLine == cpos.line) = true := by rfl) (hs : starEach (e :: es) X.env = (false, eval e X.env) :: starEach es X.env := by rfl) (hplain : (backTo cpos (starEach es X.env)).any (·.1) = false := by rfl) :
    PE X (.Call (.Attribute o name apos) (e :: es) [] cpos) (tBMD r to t) := by
  refine ⟨fun pins s σ H Q I h => ?_⟩
  refine wpAny_Call_method_late hbase hfew hline rfl (thn (ho.run pins s σ H _ I h) fun v s1 ⟨x, H1, I1, r1, ⟨a, ex, d⟩, q1⟩ => ?_)
  subst ex
  obtain rfl : v = Value.ref a := r1
  obtain ⟨t1, t2, _⟩ := isD_at I1 d
  refine ⟨"dict", id, PySem.F.plainAttrs_dict, slot, hty, t1, t2, ?_⟩
  have hA := ha.run cpos pins s1 σ H1 _ I1 q1
  rw [hs] at hA ⊢
  refine Calls.callWith_builtin (by show (false || (backTo cpos (starEach es X.env)).any (·.1)) = false; rw [hplain] <;> rfl) (Calls.evalArgs_plain ?_)
  exact thn hA fun us s2 ⟨vs, H2, I2, r2, q2⟩ => hm pins s2 σ H2 (V.ref a) vs (Value.ref a) us Q I2 rfl r2 q2
def rGet : V → List V → Hp → VK → Prop := fun x xs H Q => ∃ a y o, x = .ref a ∧ DGet H a y o ∧ ((xs = [y] ∧ Q (o.getD .non) H) ∨ ∃ z, xs = [y, z] ∧ Q (o.getD z) H)
theorem mt_get {X : Cx} (hu : X.A.units + 1 < cLine) : MtR X "dict.get" rGet := by
  rintro pins s σ H x xs v us Q I rx rs ⟨a, y, o, rfl, g, ⟨rfl, q⟩ | ⟨z, rfl, q⟩⟩
  · obtain rfl : v = Value.ref a := rx
    obtain ⟨u, rfl, ru⟩ := vals1 rs
    exact d_get1 hu I g ru fun w' s3 I3 rw' => ⟨_, H, I3, rw', q⟩
  · obtain rfl : v = Value.ref a := rx
    cases rs with
    | cons r1 rs =>
      obtain ⟨u2, rfl, r2⟩ := vals1 rs
      exact d_get2 hu I g r1 r2 fun w' s3 I3 rw' => ⟨_, H, I3, rw', q⟩
section
variable {K : Fg} {cs : Nat → Option Addr} {cl : Cl} {fl : Nat → List Bool} {Z H : Hp} {ρ : List Addr} {σ : L2.St} {st : St} {tm : List Th}
theorem Rel.newK {A : List Addr} {h : List O} {ts : List Th} {p : Addr} (R : Rel K cs A Z ρ H h ts) (hp : H p = none) : Rel K cs A Z ρ (upd H p (.dK [])) h ((.dct [], some (.ref p)) :: ts) :=
  Rel.closeK (R.alloc hp) upd_same .nil
theorem i_dsp {Q : VK} (h : rdE cs cl fl K (.dsp .nil) σ H Q) : tDNewK σ H Q := by
  obtain ⟨Z, ρ, st, tm, I, F⟩ := h
  unfold Fit hd at F
  intro p hp
  exact F Z ρ (.ref p) _ (Le.refl _) (Px.refl _) ⟨I.len, by
    have R := Rel.newK (In.rel I) hp
    exact R.perm List.perm_middle.symm⟩ trivial
theorem i_get {o es : E} {Q : VK} (h : rdE cs cl fl K (.mth .get o es) σ H Q) : tBMD rGet (rdE cs cl fl K o) (rdH cs cl fl K es) σ H Q := by
  obtain ⟨Z, ρ, st, tm, I, F⟩ := h
  unfold Fit hd at F
  refine ⟨Z, ρ, st, tm, I, (W_bind.mp F).mono fun x s1 F Z1 ρ1 v H1 l1 p1 I1 hx => ?_⟩
  obtain ⟨p, w, F⟩ := look_ok (W_bind.mp F) I1 hx
  split at F
  · rename_i hr
    have hr : (dv p).isSome = true := hr
    obtain ⟨ks, hks⟩ := Option.isSome_iff_exists.mp hr
    obtain ⟨a, ws, e1, ha, r1⟩ := View.dv w I1.rel.le hks
    refine ⟨⟨a, e1, .inl ⟨ws, .inl ha⟩⟩, Z1, ρ1, s1, _, I1, (W_bind.mp F).mono fun ys s2 F Z2 ρ2 us H2 l2 p2 I2 hy => ?_⟩
    obtain ⟨os, w2, F⟩ := looks_ok (W_bind.mp F) I2 hy
    obtain ⟨q, w3, F⟩ := look_ok (W_bind.mp F) I2.drops hx
    obtain ⟨r, e2, F⟩ := W_opt (W_bind.mp F)
    have I3 : In K cs Z2 ρ2 H2 s2 σ tm := I2.drops.drops
    have done : ∀ (x : D) (u : V), r = .d x → RD K Z2 ρ2 x u → Q u H2 := fun x u er ru => by
      subst er
      exact F Z2 ρ2 u H2 (l1.trans l2) (p1.trans p2) (I3.dat ru) trivial
    have e2 : mGet q os = some r := e2
    unfold mGet at e2
    split at e2
    · split at e2
      · rename_i y ks2 k h1 h2
        cases e2
        obtain ⟨u, eu, wu⟩ := Paired.one w2
        subst eu
        obtain ⟨a2, ws2, e3, ha2, r2⟩ := View.dv w3 I2.rel.le h1
        have ek := key_v h2 wu.rd
        rcases r2.at k with ⟨n1, n2⟩ | ⟨x1, v1, n1, n2, n3⟩
        · exact ⟨a2, u, _, e3, by rw [ek]; exact DGet.k ha2, .inl ⟨rfl, by rw [n2]; exact done .non .non (by rw [n1]; rfl) rd_non⟩⟩
        · exact ⟨a2, u, _, e3, by rw [ek]; exact DGet.k ha2, .inl ⟨rfl, by rw [n2]; exact done x1 v1 (by rw [n1]; rfl) n3⟩⟩
      · cases e2
    · split at e2
      · rename_i ks2 k h1 h2
        cases e2
        cases w2 with
        | cons wu w2 =>
          obtain ⟨u2, eu2, wz⟩ := Paired.one w2
          subst eu2
          obtain ⟨a2, ws2, e3, ha2, r2⟩ := View.dv w3 I2.rel.le h1
          have ek := key_v h2 wu.rd
          rcases r2.at k with ⟨n1, n2⟩ | ⟨x1, v1, n1, n2, n3⟩
          · exact ⟨a2, _, _, e3, by rw [ek]; exact DGet.k ha2, .inr ⟨u2, rfl, by rw [n2]; exact done _ u2 (by rw [n1]; rfl) wz.rd⟩⟩
          · exact ⟨a2, _, _, e3, by rw [ek]; exact DGet.k ha2, .inr ⟨u2, rfl, by rw [n2]; exact done x1 v1 (by rw [n1]; rfl) n3⟩⟩
      · cases e2
    · cases e2
  · exact F.elim
end
/-! repr of a list display: its cell is new -/
def tLstN (t : TA) : TE := fun σ H Q => t σ H fun xs H1 => xs.length ≤ sizeLine ∧ ∀ p, H1 p = none → p ≠ sysModules → Q (.ref p) (upd H1 p (.lst xs))
theorem pe_lstN {X : Cx} {es : List Expr} {pos : Pos} {t : TA} (h : PA X es t) : PE X (.List es pos) (tLstN t) := by
  refine ⟨fun pins s σ H Q I hq => ?_⟩
  refine wpAny_List_spliced (thn (h.run pos pins s σ H _ I hq) fun us s1 ⟨xs, H1, I1, r, z, q⟩ => ⟨by rw [← r.length]; exact z, ?_⟩)
  have hf : H1 s1.heap.objs.size = none := I1.hok.fresh (Nat.le_refl _)
  refine ⟨.ref s1.heap.objs.size, upd H1 s1.heap.objs.size (.lst xs), I1.laid (t' := s1.toks) (fun b u e => Heap.get?_push_of_some _ e) (Nat.le_refl _) ?_, rfl, q _ hf (Nat.ne_of_gt I1.big)⟩
  exact ⟨z, us, 0, r, Heap.get?_push_size _ rfl⟩
def rRepL (K : Fg) : List V → Hp → VK → Prop := fun vs H Q => ∃ a xs Z ρ ds ps, vs = [.ref a] ∧ a ≠ sysModules ∧ H a = some (.lst xs) ∧ Le Z H ∧ RDs K Z ρ ds xs ∧ pysD ds = some ps ∧ (PyData.list ps).showable = true ∧ (PyData.list ps).shown.length ≤ sizeLine ∧ (PyData.list ps).depth ≤ 64 ∧ Q (.str (PyData.list ps).shown) H
theorem call_repL {X : Cx} (hg : X.A.guards = some []) (hu : X.A.units + 80 < cLine) : CallR X (.builtin "repr") (rRepL X.K) := by
  rintro pins s σ H vs us Q I r ⟨a, xs, Z, ρ, ds, ps, rfl, hne, ha, le, rs, e, h1, h2, h3, q⟩
  obtain rfl := Vals.ref1 r
  obtain ⟨_, its, n, rv, ho⟩ := (show ObjOk X.prog X.w H s.heap a (.lst xs) from I.hok a _ ha)
  obtain ⟨as, rd, ns⟩ := RDs.reads I le e rs rv
  have fin : ∀ h' t tk, (∀ b o, s.heap.get? b = some o → h'.get? b = some o) → EP X pins σ Q (.str (PyData.list ps).shown t) { s with heap := h', toks := tk } := fun h' t tk hk =>
    ⟨.str (PyData.list ps).shown, H, I.kept hk, ⟨t, rfl⟩, q⟩
  exact repr_of_reads' (.list ho rfl rfl (by simpa using rd)) h1 (fun _ => by
    simp only [List.mem_cons, not_or]
    exact ⟨fun z => hne z.symm, ns⟩) hg (by omega) (fun _ _ e => e) fin h2
section
variable {K : Fg} {cs : Nat → Option Addr} {cl : Cl} {fl : Nat → List Bool} {H : Hp} {σ : L2.St}
theorem i_repL {es : E} {Q : VK} (h : rdE cs cl fl K (.repL es) σ H Q) : tCB (rRepL K) (tCons (tLstN (rdV cs cl fl K es)) tNil) σ H Q := by
  obtain ⟨Z, ρ, st, tm, I, F⟩ := h
  unfold Fit hd at F
  refine ⟨Z, ρ, st, tm, I, (W_bind.mp F).mono fun xs s1 F Z1 ρ1 vs H1 l1 p1 I1 r1 => ?_⟩
  cases hps : pysD xs with
  | none => simp only [hps] at F; exact F.elim
  | some ps =>
    simp only [hps] at F
    by_cases hc : ((PyData.list ps).showable && line (PyData.list ps).shown.length && decide ((PyData.list ps).depth ≤ 64) && line xs.length) = true
    · rw [if_pos hc] at F
      simp only [Bool.and_eq_true, decide_eq_true_eq] at hc
      obtain ⟨⟨⟨h1, h2⟩, h3⟩, h4⟩ := hc
      refine ⟨by rw [← r1.length]; exact line_le h4, fun p hp hne => ?_⟩
      have R := I1.rel.newL hp r1
      have le : Le Z1 (upd H1 p (.lst vs)) := R.le
      refine ⟨p, vs, Z1, ρ1, xs, ps, rfl, hne, upd_same, le, r1, hps, h1, line_le h2, h3, ?_⟩
      have R2 : Rel K cs [] Z1 ρ1 (upd H1 p (.lst vs)) s1.h (s1.e.zip σ ++ tm) := R.drop
      exact F Z1 ρ1 _ _ l1 p1 (In.dat (⟨I1.len, R2⟩ : In K cs Z1 ρ1 _ s1 σ tm) (rd_str _)) trivial
    · rw [if_neg hc] at F
      exact F.elim
end
end Lw

set_option Elab.async false
set_option linter.all false
set_option maxRecDepth 100000
set_option maxHeartbeats 8000000
/-! Lw, part 8b: objects of the text's classes -/
namespace Lw
open PySem L2 PySem.Spec PyProof.Rows
section
variable {K : Fg} {cs : Nat → Option Addr} {Z Z' H H' : Hp} {ρ ρ' : List Addr} {st : St} {σ : L2.St} {tm : List Th}
theorem fs_some : ∀ {ds : List (Str × D)} {fs : List (Str × V)} {f : Str} {y : D}, ds.map (·.1) = fs.map (·.1) → RDs K Z ρ (ds.map (·.2)) (fs.map (·.2)) → ds.lookup f = some y → ∃ u, fs.lookup f = some u ∧ RD K Z ρ y u
  | [], fs, f, y, e, r, h => by cases h
  | (g, x) :: ds, [], f, y, e, r, h => by cases e
  | (g, x) :: ds, (g2, u) :: fs, f, y, e, r, h => by
    simp only [List.map_cons, List.cons.injEq] at e
    obtain ⟨e1, e2⟩ := e
    have e1 : g = g2 := e1
    subst e1
    simp only [List.map_cons] at r
    unfold RDs at r
    obtain ⟨v, r2, e3, p, q⟩ := r
    simp only [List.cons.injEq] at e3
    obtain ⟨e4, e5⟩ := e3
    subst e4
    subst e5
    simp only [List.lookup_cons] at h ⊢
    cases hg : f == g with
    | true => rw [hg] at h; cases h; exact ⟨u, rfl, p⟩
    | false => rw [hg] at h; exact fs_some e2 q h
theorem fs_none : ∀ {ds : List (Str × D)} {fs : List (Str × V)} {f : Str}, ds.map (·.1) = fs.map (·.1) → ds.lookup f = none → fs.lookup f = none
  | [], [], f, e, h => rfl
  | [], b :: fs, f, e, h => by cases e
  | (g, x) :: ds, [], f, e, h => by cases e
  | (g, x) :: ds, (g2, u) :: fs, f, e, h => by
    simp only [List.map_cons, List.cons.injEq] at e
    obtain ⟨e1, e2⟩ := e
    have e1 : g = g2 := e1
    subst e1
    simp only [List.lookup_cons] at h ⊢
    cases hg : f == g with
    | true => rw [hg] at h; cases h
    | false => rw [hg] at h; exact fs_none e2 h
theorem fs_put : ∀ {ds : List (Str × D)} {fs : List (Str × V)} {f : Str} {y : D} {u : V}, ds.map (·.1) = fs.map (·.1) → RDs K Z ρ (ds.map (·.2)) (fs.map (·.2)) → RD K Z ρ y u → (setFs f y ds).map (·.1) = (putF f u fs).map (·.1) ∧ RDs K Z ρ ((setFs f y ds).map (·.2)) ((putF f u fs).map (·.2))
  | [], [], f, y, u, e, r, p => ⟨rfl, .cons p .nil⟩
  | [], b :: fs, f, y, u, e, r, p => by cases e
  | (g, x) :: ds, [], f, y, u, e, r, p => by cases e
  | (g, x) :: ds, (g2, w) :: fs, f, y, u, e, r, p => by
    simp only [List.map_cons, List.cons.injEq] at e
    obtain ⟨e1, e2⟩ := e
    have e1 : g = g2 := e1
    subst e1
    simp only [List.map_cons] at r
    unfold RDs at r
    obtain ⟨v, r2, e3, p2, q⟩ := r
    simp only [List.cons.injEq] at e3
    obtain ⟨e4, e5⟩ := e3
    subst e4
    subst e5
    unfold setFs putF
    by_cases hg : g = f
    · rw [if_pos hg, if_pos hg]
      exact ⟨by simp only [List.map_cons, e2], .cons p q⟩
    · rw [if_neg hg, if_neg hg]
      obtain ⟨h1, h2⟩ := fs_put (f := f) e2 q p
      exact ⟨by simp only [List.map_cons, h1], .cons p2 h2⟩
theorem fs_len {ds : List (Str × D)} {fs : List (Str × V)} (e : ds.map (·.1) = fs.map (·.1)) : ds.length = fs.length := by
  have := congrArg List.length e
  rwa [List.length_map, List.length_map] at this
/-- an object at a number, read -/
theorem ins_at {x : Hd} {v : V} {n c : Nat} {ds : List (Str × D)} (I : In K cs Z ρ H st σ ((.d (.ref n), some v) :: tm)) (hn : st.h[n]? = some (.ins c ds)) :
    ∃ a dx C fs, v = .ref a ∧ ρ[n]? = some a ∧ H a = some (.ins C dx fs) ∧ cs c = some C ∧ ds.map (·.1) = fs.map (·.1) ∧ RDs K Z ρ (ds.map (·.2)) (fs.map (·.2)) := by
  have rd := In.rd (tm := tm) I
  unfold RD at rd
  obtain ⟨q, e1, e2⟩ := rd
  subst e2
  obtain ⟨a, dx, C, fs, e, h1, h2, h3, h4⟩ := (In.drop (tm := tm) I).rel.viewH hn e1 (by simp)
  cases e
  exact ⟨q, dx, C, fs, rfl, e1, h1, h2, h3, h4⟩
theorem fldOf_ok {x : Hd} {v : V} {f : Str} {G : D → St → Prop} (h : W (fldOf x f st) G) (I : In K cs Z ρ H st σ (hT x v ++ tm)) :
    ∃ a dx C fs c y u, v = .ref a ∧ H a = some (.ins C dx fs) ∧ cs c = some C ∧ fs.lookup f = some u ∧ RD K Z ρ y u ∧ In K cs Z ρ H st σ tm ∧ G y st := by
  unfold fldOf at h
  split at h
  · rename_i n
    split at h
    · rename_i c ds hn
      obtain ⟨y, e, g⟩ := W_opt h
      obtain ⟨a, dx, C, fs, e1, e2, h1, h2, h3, h4⟩ := ins_at (x := .slot 0) (tm := tm) I hn
      obtain ⟨u, k1, k2⟩ := fs_some h3 h4 e
      exact ⟨a, dx, C, fs, c, y, u, e1, h1, h2, k1, k2, In.drop (tm := tm) I, g⟩
    · exact h.elim
  · exact h.elim
theorem clsOf_ok {x : Hd} {v : V} {m : Str} {G : Nat × Nat → St → Prop} (h : W (clsOf x m st) G) (I : In K cs Z ρ H st σ (hT x v ++ tm)) :
    ∃ a dx C fs c n, v = .ref a ∧ H a = some (.ins C dx fs) ∧ cs c = some C ∧ fs.lookup m = none ∧ ρ[n]? = some a ∧ In K cs Z ρ H st σ tm ∧ G (c, n) st := by
  unfold clsOf at h
  split at h
  · rename_i n
    split at h
    · rename_i c ds hn
      split at h
      · rename_i hl
        obtain ⟨a, dx, C, fs, e1, e2, h1, h2, h3, h4⟩ := ins_at (x := .slot 0) (tm := tm) I hn
        exact ⟨a, dx, C, fs, c, n, e1, h1, h2, fs_none h3 hl, e2, In.drop (tm := tm) I, h⟩
      · exact h.elim
    · exact h.elim
  · exact h.elim
/-- a field is written -/
theorem setFld_ok {x : Hd} {v w : V} {f : Str} {y : D} {G : Unit → St → Prop} (h : W (setFld x f y st) G) (I : In K cs Z ρ H st σ (hT x v ++ tm)) (r : RD K Z ρ y w) :
    ∃ a dx C fs c, v = .ref a ∧ H a = some (.ins C dx fs) ∧ cs c = some C ∧ fs.length < 1000 ∧ ∃ s', G () s' ∧ In K cs Z ρ (upd H a (.ins C dx (putF f w fs))) s' σ tm := by
  unfold setFld at h
  split at h
  · rename_i n
    split at h
    · rename_i c ds hn
      split at h
      · rename_i hl
        have rd := In.rd (tm := tm) I
        unfold RD at rd
        obtain ⟨q, e1, e2⟩ := rd
        subst e2
        obtain ⟨a, dx, C, fs, e, ha, hdx, hc, hk, hr, R⟩ := ((In.drop (tm := tm) I).rel.takeH hn e1).openI
        cases e
        have hi : n < st.h.length := (List.getElem?_eq_some_iff.mp hn).1
        refine ⟨q, dx, C, fs, c, rfl, ha, hc, by rw [← fs_len hk]; exact of_decide_eq_true hl, _, h, ?_⟩
        obtain ⟨k1, k2⟩ := fs_put (f := f) hk hr r
        have ne : dx ≠ q := fun e => by rw [e, ha] at hdx; cases hdx
        have R2 : Rel K cs (q :: dx :: []) Z ρ (upd H q (.ins C dx (putF f w fs))) (st.h.set n .hole) (st.e.zip σ ++ tm) := R.set (List.mem_cons_self ..)
        have R3 := R2.closeI (c := c) (ds := setFs f y ds) upd_same (by rw [upd_ne ne]; exact hdx) hc k1 k2
        exact ⟨I.len, R3.putH hi e1⟩
      · exact h.elim
    · exact h.elim
  · exact h.elim
end
section
variable {g : Gm} {cs : Nat → Option Addr} {cl : Cl} {fl : Nat → List Bool} {K : Fg} {σ : L2.St} {H : Hp}
theorem i_fld {o : E} {f : Str} {Q : VK} (hf : ∀ c C, cs c = some C → Cls K C ∧ NoAttr K C f) (h : rdE cs cl fl K (.fld o f) σ H Q) : tFld K (rdE cs cl fl K o) f σ H Q := by
  obtain ⟨Z, ρ, st, tm, I, F⟩ := h
  unfold Fit hd at F
  refine ⟨Z, ρ, st, tm, I, (W_bind.mp F).mono fun x s1 F Z1 ρ1 v H1 l1 p1 I1 hx => ?_⟩
  obtain ⟨a, dx, C, fs, c, y, u, e, ha, hc, hl, hr, I2, F⟩ := fldOf_ok (W_bind.mp F) I1
  obtain ⟨k1, k2⟩ := hf c C hc
  exact ⟨a, C, dx, fs, u, e, ha, k1, k2, hl, F Z1 ρ1 u H1 l1 p1 (I2.dat hr) trivial⟩
/-- o.f = v -/
def gFld (K : Fg) (to : TE) (f : Str) : TG := fun v σ H Q => to σ H fun x H1 => ∃ a C dx fs, x = .ref a ∧ H1 a = some (.ins C dx fs) ∧ Cls K C ∧ NoAttr K C f ∧ fs.length < 1000 ∧ Q σ (upd H1 a (.ins C dx (putF f v fs)))
theorem g_fld {o : E} {f : Str} {v : V} {Q : L2.St → Hp → Prop} (hf : ∀ c C, cs c = some C → Cls K C ∧ NoAttr K C f) (h : rdG cs cl fl K (.fld o f) v σ H Q) : gFld K (rdE cs cl fl K o) f v σ H Q := by
  obtain ⟨Z, ρ, st, tm, ob, I, F⟩ := h
  unfold asg at F
  refine ⟨Z, ρ, st, (ob, some v) :: tm, I, (W_bind.mp F).mono fun x s1 F Z1 ρ1 u H1 l1 p1 I1 hx => ?_⟩
  have I2 : In K cs Z1 ρ1 H1 s1 σ ((ob, some v) :: (hT x u ++ tm)) := I1.perm List.perm_middle
  obtain ⟨ρ2, y, s2, p2, I3, es, r, F⟩ := publ_ok (W_bind.mp F) I2
  obtain ⟨a, dx, C, fs, c, e, ha, hc, hl, s3, F, I4⟩ := setFld_ok (w := v) F I3 r
  obtain ⟨k1, k2⟩ := hf c C hc
  exact ⟨a, C, dx, fs, e, ha, k1, k2, hl, F Z1 ρ2 σ _ l1 (p1.trans p2) (Sm.refl _ _) I4⟩
end
section
variable {X : Cx} {cs : Nat → Option Addr} {cl : Cl} {fl : Nat → List Bool} {σ : L2.St} {H : Hp}
theorem pg_fld {o : Expr} {f : Str} {pos : Pos} {to : TE} (ho : PE X o to) : PG X (.Attribute o f pos) (gFld X.K to f) := by
  refine ⟨fun pins s σ H v u Q I r h => ?_⟩
  show wpAny _ _ (do
      let ov ← holding [u] (eval o X.env)
      standAt pos.atName
      holding [u, ov] (setAttr ov f u)
      release [u, ov] []) _ _ s
  refine wpAny_bind (wpAny_holding (thn (ho.run pins s σ H _ I h) fun ov s1 ⟨x, H1, I1, r1, a, C, dx, fs, ex, ea, c, n, l, q1⟩ => ?_))
  subst ex
  obtain rfl : ov = Value.ref a := r1
  refine wpAny_bind (wpAny_standAt (wpAny_bind (wpAny_holding (setattr_ok I1 ea c n l r fun s3 I3 => ?_))))
  exact wpAny_release ⟨σ, _, I3, q1⟩
/-- o.m(e, ..), whatever o's class is -/
def tMethD (X : Cx) (cs : Nat → Option Addr) (m : Str) (ta : TE) (t : List Bool → TA) : TE := fun σ H Q => ta σ H fun x H1 => ∃ a dx fs C fa fd ps k pl G, x = .ref a ∧ H1 a = some (.ins C dx fs) ∧ fs.lookup m = none ∧
  Cls X.K C ∧ Meth X.K C m fa ∧ FnV X.prog X.w X.K X.mg X.base cs G k fa fd ps ∧ Room k X.A ∧ Binds X.K fd ps [] ∧
  t pl σ H1 fun vs H2 => vs.length + 1 = ps.length ∧ spF X.K cs G (x :: vs) H2 Q
theorem pe_methD {o : Expr} {m : Str} {es : List Expr} {apos pos : Pos} {ta : TE} {t : List Bool → TA} {pl : Sem Bool} (he : PE X o ta) (hu : X.A.guards = some []) (ha : ∀ b, PA X es (t b))
    (hne : es = [] ∧ (∀ b, t b = tNil) ∨ ∃ e r, es = e :: r ∧ starEach (e :: r) X.env = (false, eval e X.env) :: starEach r X.env ∧ (backTo pos (starEach r X.env)).any (·.1) = false)
    (ht : eval (.Call (.Attribute o m apos) es [] pos) X.env = (do
      let ov ← eval o X.env
      standAt apos.atName
      let (f, first) ← holding [ov] (getMethod ov m pl)
      callWith pos f first (backTo pos (starEach es X.env)) (backToKw pos (keywordEach [] X.env)))) :
    PE X (.Call (.Attribute o m apos) es [] pos) (tMethD X cs m ta t) := by
  refine ⟨fun pins s σ H Q I h => PySem.W.methodCall_KW (pl := pl) (thn (he.run pins s σ H _ I h) fun u s1 ⟨x, H1, I1, rx, a, dx, fs, C, fa, fd, ps, k, bl, G, ex, ea, l, c, hm, F, hr, hb, q⟩ => ?_) ht⟩
  subst ex
  have eu : u = Value.ref a := rx
  subst eu
  refine getmeth_ok I1 ea c hm l ?_
  rcases hne with ⟨e1, e2⟩ | ⟨e, r, e1, hst, hpl⟩
  · subst e1
    rw [e2] at q
    exact PySem.W.callWith_K0 (first := [.ref a]) I1.kIn hm.kp (F.val (us := [.ref a]) (vs := [.ref a]) hr hu hb I1 (.cons rfl .nil) q.1 q.2)
  · subst e1
    exact PySem.W.callWith_K (first := [.ref a]) (h₀ := X.base) I.ok.mod.kin hm.kp (thn ((ha bl).run pos pins s1 σ H1 _ I1 q) fun us s2 ⟨vs, H2, I2, r2, hl, q2⟩ => ⟨I2.kIn, F.val (us := .ref a :: us) (vs := .ref a :: vs) hr hu hb I2 (.cons rfl r2) hl q2⟩) hst hpl
/-- C(e, ..) -/
def tMakeV (K : Fg) (cs : Nat → Option Addr) (C : Addr) (G : List O → List O → CRes) (n : Nat) (t : TA) : TE := fun σ H Q => t σ H fun vs H1 => vs.length + 1 = n ∧ ∀ x dx, H1 x = none → H1 dx = none → dx ≠ x →
  spF K cs G (.ref x :: vs) (upd (upd H1 dx (.own x)) x (.ins C dx [])) (fun v H2 => v = .non ∧ Q (.ref x) H2)
theorem run_makeV {G : List O → List O → CRes} {k : Nat} {C f : Addr} {fd : FuncData} {ps : List Str} {pins : List (Addr × Obj)} {s : Shared} {Q : VK} {us : List Value} {vs : List V} (M : Mk X.K C f) (F : FnV X.prog X.w X.K X.mg X.base cs G k f fd ps) (hr : Room (k + 1) X.A) (hu : X.A.guards = some []) (hb : Binds X.K fd ps [])
    (I : L2.Inv X pins σ H s) (r : Vals vs us) (hl : vs.length + 1 = ps.length)
    (h : ∀ x dx, H x = none → H dx = none → dx ≠ x → spF X.K cs G (.ref x :: vs) (upd (upd H dx (.own x)) x (.ins C dx [])) (fun v H2 => v = .non ∧ Q (.ref x) H2)) :
    wpAny (model X.prog X.w) X.A (PySem.call (.ref C) us) (EP X pins σ Q) X.xe s := by
  have hq := h (s.heap.objs.size + 1) s.heap.objs.size (I.hok.fresh (Nat.le_succ _)) (I.hok.fresh (Nat.le_refl _)) (Nat.ne_of_lt (Nat.lt_succ_self _))
  have I2 := Inv.made (C := C) I
  have r2 : Vals (V.ref (s.heap.objs.size + 1) :: vs) (Value.ref (s.heap.objs.size + 1) :: us) := .cons rfl r
  have hl2 : (Value.ref (s.heap.objs.size + 1) :: us ++ []).length = ps.length := by
    rw [List.append_nil, ← r2.length]; exact hl
  have b := hb _ (Value.ref (s.heap.objs.size + 1) :: us) I2.kIn hl2
  rw [List.append_nil] at b
  refine wpAny_call (make_map (f := f) I.kIn M.makes M.init (beq_iff_eq.mp M.fn) (codeAny_mono (F.go _ X.stack _ _ ⟨Value.ref (s.heap.objs.size + 1) :: us, []⟩ (Value.ref (s.heap.objs.size + 1) :: us) _ _ (hr.make C us []) hu
    (I2.env0.make C us []) b r2 hl hq) fun r s' hq' => ?_))
  match r, hq' with
  | .ok (.ret u), hq' =>
    obtain ⟨v, H', I3, rv, ev, q3⟩ := I2.after hq'
    subst ev
    exact ⟨rv, ⟨V.ref (s.heap.objs.size + 1), H', I3, rfl, q3⟩⟩
theorem pe_makeV {G : List O → List O → CRes} {k : Nat} {C f : Addr} {fd : FuncData} {ps : List Str} {x : Str} {p pos : Pos} {e : Expr} {es : List Expr} {t : TA} (M : Mk X.K C f) (F : FnV X.prog X.w X.K X.mg X.base cs G k f fd ps) (hr : Room (k + 1) X.A) (hu : X.A.guards = some []) (hb : Binds X.K fd ps []) (hg : Gl X x) (hm : X.mg x = some (.ref C))
    (ha : PA X (e :: es) t) (hdb : (x == ("__debug__" : Str)) = false) (hs : starEach (e :: es) X.env = (false, eval e X.env) :: starEach es X.env) (hpl : (backTo pos (starEach es X.env)).any (·.1) = false) :
    PE X (.Call (.Name x p) (e :: es) [] pos) (tMakeV X.K cs C G ps.length t) :=
  ⟨fun pins s σ H Q I h => wpAny_Call_Name_kw (ld_glob I hg hm (PySem.W.callWith_K (h₀ := X.base) I.ok.mod.kin M.kp
    (thn (ha.run pos pins s σ H _ I h) fun us s1 ⟨vs, H1, I1, r, hl, q⟩ => ⟨I1.kIn, run_makeV M F hr hu hb I1 r hl q⟩) hs hpl) hdb)⟩
theorem pe_makeV0 {G : List O → List O → CRes} {k : Nat} {C f : Addr} {fd : FuncData} {ps : List Str} {x : Str} {p pos : Pos} (M : Mk X.K C f) (F : FnV X.prog X.w X.K X.mg X.base cs G k f fd ps) (hr : Room (k + 1) X.A) (hu : X.A.guards = some []) (hb : Binds X.K fd ps []) (hg : Gl X x) (hm : X.mg x = some (.ref C))
    (hdb : (x == ("__debug__" : Str)) = false) : PE X (.Call (.Name x p) [] [] pos) (tMakeV X.K cs C G ps.length tNil) :=
  ⟨fun pins s σ H Q I h => wpAny_Call_Name_kw (ld_glob I hg hm (PySem.W.callWith_K0 I.kIn M.kp (run_makeV (us := []) M F hr hu hb I .nil h.1 h.2)) hdb)⟩
end
end Lw
namespace Lw
open PySem L2 PySem.Spec PyProof.Rows
section
variable {X : Cx} {cs : Nat → Option Addr} {cl : Cl} {fl : Nat → List Bool} {σ : L2.St} {H : Hp}
theorem i_omt {m : Str} {o es : E} {Q : VK} (mts : ∀ c f, cl.mt c m = some f → ∃ C fa fd ps k, cs c = some C ∧ Cls X.K C ∧ Meth X.K C m fa ∧ FnV X.prog X.w X.K X.mg X.base cs (cl.fn f) k fa fd ps ∧ Room k X.A ∧ Binds X.K fd ps [] ∧
    ∀ os h o h', cl.fn f os h = .ok o h' → os.length = ps.length)
    (h : rdE cs cl fl X.K (.omt m o es) σ H Q) : tMethD X cs m (rdE cs cl fl X.K o) (fun pl => rdO cs X.K (avs cl fl pl es)) σ H Q := by
  obtain ⟨Z, ρ, st, tm, I, F⟩ := h
  unfold Fit hd at F
  refine ⟨Z, ρ, st, tm, I, (W_bind.mp F).mono fun x s1 F Z1 ρ1 v H1 l1 p1 I1 hx => ?_⟩
  obtain ⟨a, dx, C, fs, c, n, e, ha, hc, hl, hρ, I2, F⟩ := clsOf_ok (W_bind.mp F) I1
  dsimp only at F
  cases hmt : cl.mt c m with
  | none => rw [hmt] at F; exact F.elim
  | some f =>
    rw [hmt] at F
    obtain ⟨C', fa, fd, ps, k, hc', hcls, hmeth, hF, hr, hb, hn⟩ := mts c f hmt
    have eC : C' = C := by rw [hc] at hc'; cases hc'; rfl
    subst eC
    refine ⟨a, dx, fs, C', fa, fd, ps, k, (fl f).tail, cl.fn f, e, ha, hl, hcls, hmeth, hF, hr, hb, Z1, ρ1, s1, tm, I2, (W_bind.mp F).mono fun os s2 F Z2 ρ2 vs H2 l2 p2 hlen I3 => ?_⟩
    cases hres : cl.fn f (.d (.ref n) :: os) s2.h with
    | bad => rw [hres] at F; exact F.elim
    | exc c v h => rw [hres] at F; exact F.elim
    | ok r h' =>
      rw [hres] at F
      have hn' := hn _ _ _ _ hres
      rw [List.length_cons] at hn'
      subst e
      have rr : RD X.K Z2 ρ2 (.ref n) (.ref a) := by unfold RD; exact ⟨a, p2.at hρ, rfl⟩
      refine ⟨by rw [← hlen]; exact hn', Z2, ρ2, s2.h, .d (.ref n) :: os, s2.e.zip σ ++ tm, by rw [List.length_cons, List.length_cons, hlen], ?_, ?_⟩
      · exact (I3.rel.perm (List.perm_append_comm_assoc _ _ _)).dat rr
      · rw [hres]
        intro Z3 ρ3 v H3 l3 p3 R
        exact F Z3 ρ3 v H3 (l1.trans (l2.trans l3)) (p1.trans (p2.trans p3)) (.back (st := ⟨s2.e, h'⟩) I3.len R) trivial
theorem i_new {c f n : Nat} {C : Addr} {es : E} {K : Fg} {Q : VK} (hc : cs c = some C) (hi : cl.ini c = some f) (hn : ∀ os h o h', cl.fn f os h = .ok o h' → os.length = n) (h : rdE cs cl fl K (.new c es) σ H Q) :
    tMakeV K cs C (cl.fn f) n (rdO cs K (avs cl fl (fl f).tail es)) σ H Q := by
  obtain ⟨Z, ρ, st, tm, I, F⟩ := h
  unfold Fit hd at F
  rw [hi] at F
  refine ⟨Z, ρ, st, tm, I, (W_bind.mp F).mono fun os s1 F Z1 ρ1 vs H1 l1 p1 hl I1 => ?_⟩
  cases hr : cl.fn f (.d (.ref s1.h.length) :: os) (s1.h ++ [.ins c []]) with
  | bad => rw [hr] at F; exact F.elim
  | exc c v h => rw [hr] at F; exact F.elim
  | ok o h' =>
    rw [hr] at F
    have hn' := hn _ _ _ _ hr
    rw [List.length_cons] at hn'
    have ho : o = .d .non := by
      cases o with
      | d y => cases y <;> first | rfl | exact F.elim
      | _ => exact F.elim
    subst ho
    refine ⟨by rw [← hl]; exact hn', fun x dx nx ndx ne => ⟨Z1, ρ1 ++ [x], s1.h ++ [.ins c []], .d (.ref s1.h.length) :: os, s1.e.zip σ ++ tm, by rw [List.length_cons, List.length_cons, hl], ?_, ?_⟩⟩
    · have R0 := I1.rel.perm (List.perm_append_comm_assoc (s1.e.zip σ) (os.zip (vs.map some)) tm)
      have R1 := R0.alloc (p := dx) (o := .own x) ndx
      have R2 := R1.alloc (p := x) (o := .ins C dx []) (by rw [upd_ne ne.symm]; exact nx)
      have R3 := R2.closeI (c := c) (ds := []) (fs := []) upd_same (by rw [upd_ne ne]; exact upd_same) hc rfl .nil
      have R4 := R3.publ
      refine R4.dat ?_
      unfold RD
      refine ⟨x, ?_, rfl⟩
      rw [I1.rel.len, List.getElem?_append_right (Nat.le_refl _), Nat.sub_self]; rfl
    · rw [hr]
      intro Z3 ρ3 v H3 l3 p3 R
      obtain ⟨u, eu, ru⟩ := R.isD
      cases eu
      refine ⟨ru.non, F Z3 ρ3 (.ref x) H3 (l1.trans l3) (Px.trans p1 (Px.trans (b := ρ1 ++ [x]) ⟨[x], rfl⟩ p3)) (.back (st := ⟨s1.e, h'⟩) I1.len (R.drop.dat ?_)) trivial⟩
      unfold RD
      refine ⟨x, p3.at ?_, rfl⟩
      rw [I1.rel.len, List.getElem?_append_right (Nat.le_refl _), Nat.sub_self]; rfl
end
end Lw

set_option Elab.async false
set_option linter.all false
set_option maxRecDepth 100000
set_option maxHeartbeats 4000000
/-! Lw: list.extend by a list or a tuple, tracked, frozen or of the module -/
namespace Lw
section
open PySem PySem.AutoSeq1
theorem lw_extend_tuple (l : Addr) (items : Array Value) (n : Nat) (b : Addr) (items2 : Array Value) (n2 : Nat) (od : Option Addr) (sl : Array (Option Value)) (hs0 : ¬(!items.isEmpty && Builtin.List.listTooLong (items.size + items2.size)) = true) (hs1 : items.size ≤ sizeLine) (hs2 : items.size + items2.size ≤ sizeLine + 1) :
    Meets (Builtin.«list.extend» ⟨[.ref l, .ref b], []⟩) (fun _ R s => s.heap.get? l = some { cls := .type "list", dict := none, data := .seq items n, slots := #[] } ∧ s.heap.get? b = some { cls := .type "tuple", dict := od, data := .seq items2 n2, slots := sl } ∧ R (.ok (.ret Value.none)) { s with heap := s.heap.update l (Obj.mapSeq fun x => x ++ items2), toks := s.toks }) :=
  .of_wp fun prog w A R s h => by
    obtain ⟨hp, g, d, tk, os⟩ := s; obtain ⟨hl, hb, h⟩ := h; have f1 := idx_int; have f2 := sub_tuple_tuple; have f3 := sub_list_list; have f4 := sub_tuple_list; have f5 := sub_list_tuple;
    have hz' : (items ++ items2).size ≤ sizeLine + 1 := by rw [Array.size_append]; exact hs2
    wp_walk using (wpAny_updateSeq hl rfl (hz := hs1) (_hz' := hz')), wpAny_loadPart' hl, wpAny_loadPart' hb; exact ⟨_, rfl, h⟩
theorem lw_extend_list (l : Addr) (items : Array Value) (n : Nat) (b : Addr) (items2 : Array Value) (n2 : Nat) (od : Option Addr) (sl : Array (Option Value)) (hs0 : ¬(!items.isEmpty && Builtin.List.listTooLong (items.size + items2.size)) = true) (hs1 : items.size ≤ sizeLine) (hs2 : items.size + items2.size ≤ sizeLine + 1) :
    Meets (Builtin.«list.extend» ⟨[.ref l, .ref b], []⟩) (fun _ R s => s.heap.get? l = some { cls := .type "list", dict := none, data := .seq items n, slots := #[] } ∧ s.heap.get? b = some { cls := .type "list", dict := od, data := .seq items2 n2, slots := sl } ∧ R (.ok (.ret Value.none)) { s with heap := s.heap.update l (Obj.mapSeq fun x => x ++ items2), toks := s.toks }) :=
  .of_wp fun prog w A R s h => by
    obtain ⟨hp, g, d, tk, os⟩ := s; obtain ⟨hl, hb, h⟩ := h; have f1 := idx_int; have f2 := sub_tuple_tuple; have f3 := sub_list_list; have f4 := sub_tuple_list; have f5 := sub_list_tuple;
    have hz' : (items ++ items2).size ≤ sizeLine + 1 := by rw [Array.size_append]; exact hs2
    wp_walk using (wpAny_updateSeq hl rfl (hz := hs1) (_hz' := hz')), wpAny_loadPart' hl, wpAny_loadPart' hb; exact ⟨_, rfl, h⟩
end
section
open PySem
variable {prog : Program} {w : World} {A : Around} {E : Value → Shared → Prop} {s : Shared} {I : Addr} {fp wr : List Addr} {G : Array GenState → Array GenState → Prop} {n m : Nat} {P : Nat → Value → Prop} {St : Nat → Shared → Prop}
/-- a walk that is counted from m on -/
theorem walk_from (W : WalksS prog w A I fp wr G n P St) (m : Nat) (pre : Nat → Value → Prop) : WalksS prog w A I fp wr G (m + n) (fun k v => if k < m then pre k v else P (k - m) v) (fun i s => m ≤ i ∧ St (i - m) s) where
  sub := W.sub
  grefl := W.grefl
  gtrans := W.gtrans
  frame := fun i s h' tk hs ht hb => ⟨hs.1, W.frame _ s h' tk hs.2 ht hb⟩
  item := fun i s Q E hi hs k => W.item (i - m) s Q E (by have := hs.1; omega) hs.2 fun v s' hp hst hm => k v s' (by rw [if_neg (by have := hs.1; omega)]; exact hp) ⟨by have := hs.1; omega, by rw [show i + 1 - m = i - m + 1 from by have := hs.1; omega]; exact hst⟩ hm
  done := fun s Q E hs k => W.done s Q E (by have := hs.2; rw [show m + n - m = n from by omega] at this; exact this) k
  self := fun i s Q E hs k => W.self (i - m) s Q E hs.2 k
theorem extend_str {R : Result → Shared → Prop} (hh : A.handled = none) (x : Str) (t : Tok) (S : Addr) (res : Value) (its : Array Value) (c₀ : Nat) (hS : s.heap.get? S = some { cls := .type "list", data := .seq its c₀ })
    (hR : ∀ h' tk acc' c', (∀ b o, b ≠ S → s.heap.get? b = some o → h'.get? b = some o) → h'.get? S = some { cls := .type "list", dict := none, data := .seq acc' c', slots := #[] } →
      ItemsOf (fun k v => if k < its.size then its[k]? = some v else SignAt x (k - its.size) v) acc' (its.size + x.cps.size) → R (.ok (.ret res)) { s with heap := h', toks := tk }) (hn : its.size + x.cps.size ≤ sizeLine) :
    wpAny (model prog w) A.in1 (Builtin.List.listExtendWith (.ref S) (.str x t) res)
      (fun fin s' => match fin with | .done f => R (.ok f) s' | .again c' => c'.quiet = true ∧ codeAny (model prog w) A c' R s') (fun e s' => R (.error e) s') s := by
  have hSI : S ≠ s.heap.objs.size := Nat.ne_of_lt (Heap.lt_size hS)
  have hSf : S ∉ [s.heap.objs.size] := fun hm => hSI (List.mem_singleton.mp hm)
  unfold Builtin.List.listExtendWith
  refine wpAny_bind (wpAny_typeOf (T := "str") (v := .str x t) rfl ?_)
  have h1 : Builtin.List.listSameRef (.ref S) (.str x t) = false := rfl
  have h2 : (Value.type "str" == Value.type "list") = false := by decide
  have h3 : (Value.type "str" == Value.type "tuple") = false := by decide
  simp only [h1, h2, h3, Bool.or_false, Bool.false_eq_true, if_false]
  refine wpAny_bind (wpAny_pyIter_str fun o St W hst => ?_)
  refine wpAny_bind (wpAny_holding ?_)
  unfold Builtin.List.listLengthHint
  refine wpAny_bind (wpAny_specialOf (T := "str") (v := .str x t) rfl F.str_len ?_)
  wp_delta
  refine wpAny_bind (wpAny_isInstance (T := "str") (v := .str x t) (b := true) rfl (by rw [isSubtype_type]; kernel_rfl) ?_)
  show wpAny _ _ (typeOf (Value.str x t) >>= _) _ _ _
  refine wpAny_bind (wpAny_typeOf (T := "str") (v := .str x t) rfl ?_)
  refine wpAny_pure ?_
  rw [if_neg (by decide)]
  refine wpAny_pure ⟨plainId_quiet F.plain_extend_loop _, codeAny_extend_loopS (walk_from (W A.in1 hh).toS its.size fun k v => its[k]? = some v) hn _ hSf _ x.cps.size its.size _ its _ (by omega) (by omega) ⟨Nat.le_refl _, by rw [Nat.sub_self]; exact hst⟩ (Heap.get?_push_of_some _ hS) ⟨rfl, fun j v hj => ?_⟩ fun s' acc' c' hm hS' hacc => ?_⟩
  · show if j < its.size then its[j]? = some v else _
    rw [if_pos (by
      rcases Array.getElem?_eq_some_iff.mp hj with ⟨h, _⟩
      exact h)]
    exact hj
  rw [Moved.eq_with hm]
  refine hR s'.heap s'.toks acc' c' (fun b ob hb e => hm.heap b ob (fun hmem => ?_) (Heap.get?_push_of_some _ e)) hS' hacc
  rcases List.mem_cons.mp hmem with e' | hmem
  · exact hb e'
  · exact absurd (Heap.lt_size e) (by rw [List.mem_singleton.mp hmem]; exact Nat.lt_irrefl _)
theorem call_extend_str {x : Str} {t : Tok} {l : Addr} {its : Array Value} {c : Nat} {Q : Value → Shared → Prop} (hh : A.handled = none) (hl : s.heap.get? l = some { cls := .type "list", data := .seq its c }) (hn : its.size + x.cps.size ≤ sizeLine)
    (k : ∀ h' tk acc' c', (∀ b o, b ≠ l → s.heap.get? b = some o → h'.get? b = some o) → h'.get? l = some { cls := .type "list", dict := none, data := .seq acc' c', slots := #[] } →
      ItemsOf (fun k v => if k < its.size then its[k]? = some v else SignAt x (k - its.size) v) acc' (its.size + x.cps.size) → Q .none { s with heap := h', toks := tk }) : wpAny (model prog w) A (call (.builtin "list.extend") [.ref l, .str x t]) Q E s := by
  have hT : s.TypeIs (.ref l) "list" := ⟨_, hl, rfl⟩
  refine wpAny_call (codeAny_call_builtin F.slot_list_extend.plain F.entry_list_extend (F.slot_list_extend.check _ _ _ _ _ _ _ _ hT (F.args_list_extend_2 _ _) ?_))
  show wpAny _ _ (Builtin.List.listExtendWith (.ref l) (.str x t) .none) _ _ s
  exact extend_str (A := A) (R := fun r s' => match r with | .ok (.ret v) => Q v s' | .ok _ => False | .error e => E e s') hh x t l .none its c hl (fun h' tk acc' c' h1 h2 h3 => k h' tk acc' c' h1 h2 h3) hn
end
open PySem L2 PySem.Spec PyProof.Rows
theorem vals_of : ∀ {xs : List V} {us : List Value}, xs.length = us.length → (∀ (k : Nat) (x : V) (u : Value), xs[k]? = some x → us[k]? = some u → RelV x u) → Vals xs us
  | [], [], _, _ => .nil
  | [], u :: us, h, _ => by simp at h
  | x :: xs, [], h, _ => by simp at h
  | x :: xs, u :: us, h, k => .cons (k 0 x u rfl rfl) (vals_of (by simpa using h) fun j y w h1 h2 => k (j + 1) y w (by simpa using h1) (by simpa using h2))
def strsV (z : Str) : List V := z.cps.toList.map fun c => V.str ⟨#[c]⟩
/-- a list extended by a text's signs -/
def rExtendS : V → List V → Hp → VK → Prop := fun x vs H Q => ∃ l z xs, x = .ref l ∧ vs = [.str z] ∧ H l = some (.lst xs) ∧ xs.length + z.length ≤ sizeLine ∧ Q .non (upd H l (.lst (xs ++ strsV z)))
theorem mt_extendS {X : Cx} (hc : X.calm = true) : MtM X "list.extend" rExtendS := by
  intro pins s σ H x vs v us Q I rx rv h
  obtain ⟨l, z, xs, rfl, rfl, hH, hz, q⟩ := h
  cases rx
  obtain ⟨u, rfl, ru⟩ := rv.one
  obtain ⟨t, rfl⟩ := ru
  obtain ⟨zl, its, n, r, hl, e⟩ := I.lstM hH
  have hzl : z.length = z.cps.size := rfl
  refine call_extend_str (I.ok.hd hc) e (by rw [List.size_toArray]; omega) fun h' tk acc' c' k1 k2 k3 => ?_
  obtain ⟨k4, k5⟩ := k3
  have k6 : acc'.toList.length = its.length + z.cps.size := by rw [Array.length_toList, k4, List.size_toArray]
  have sl : (strsV z).length = z.cps.size := by simp [strsV]
  have rel : Vals (xs ++ strsV z) acc'.toList := by
    refine vals_of (by rw [List.length_append, sl, k6, hl]) fun k y u h1 h2 => ?_
    have h2 : acc'[k]? = some u := by simpa using h2
    have h3 := k5 k u h2
    simp only [List.size_toArray, List.getElem?_toArray] at h3
    by_cases hk : k < its.length
    · rw [if_pos hk] at h3
      rw [List.getElem?_append_left (by omega)] at h1
      obtain ⟨u', e1, e2⟩ := r.get h1
      rw [e1] at h3
      cases h3
      exact e2
    · rw [if_neg hk] at h3
      obtain ⟨c, w, e1, e2⟩ := h3
      rw [List.getElem?_append_right (by omega), hl] at h1
      unfold strsV at h1
      rw [List.getElem?_map, Array.getElem?_toList, e1] at h1
      cases h1
      exact ⟨w, e2⟩
  have I2 : L2.Inv X pins σ (upd H l (.lst (xs ++ strsV z))) { s with heap := h', toks := tk } :=
    I.write (x := l) (e := l) (by rw [hH]; exact trivial) (.inl rfl) (fun b' u hb hu => k1 b' u hb hu) ⟨_, k2⟩ ⟨by rw [List.length_append, sl]; omega, acc'.toList, _, rel, by simpa using k2⟩
  exact ⟨.non, _, I2, rfl, q⟩
def rExtendA (K : Fg) : V → List V → Hp → VK → Prop := fun x vs H Q => ∃ l b xs zs, x = .ref l ∧ vs = [.ref b] ∧ H l = some (.lst xs) ∧ (SqL K H b zs ∨ SqT K H b zs) ∧ xs.length + zs.length ≤ sizeLine ∧ Q .non (upd H l (.lst (xs ++ zs)))
theorem mt_extendA {X : Cx} : MtM X "list.extend" (rExtendA X.K) := by
  intro pins s σ H x vs v us Q I rx rv h
  obtain ⟨l, b, xs, zs, rfl, rfl, hH, hB, hz, q⟩ := h
  cases rx
  obtain ⟨u, rfl, ru⟩ := rv.one
  cases ru
  obtain ⟨z, its, n, r, hl, e⟩ := I.lstM hH
  have core : ∀ its2 : List Value, Vals zs its2 → its.toArray.size + its2.toArray.size ≤ sizeLine ∧ ¬ (!its.toArray.isEmpty && Builtin.List.listTooLong (its.toArray.size + its2.toArray.size)) = true := fun its2 r2 => by
    have hl2 := r2.length
    have hsz : its.toArray.size + its2.toArray.size ≤ sizeLine := by rw [List.size_toArray, List.size_toArray]; omega
    refine ⟨hsz, ?_⟩
    rw [notLongL hsz, Bool.and_false]
    exact Bool.false_ne_true
  rcases hB with hB | hB
  · obtain ⟨its2, r2, ⟨o, n2, ho, hc, _, hd⟩, _⟩ := I.list hB
    obtain ⟨hsz, hlong⟩ := core its2 r2
    obtain ⟨oc, od, odat, osl⟩ := o
    cases hc
    cases hd
    refine call_meets F.slot_list_extend ⟨_, e, rfl⟩ F.entry_list_extend (F.args_list_extend_2 _ _)
      (lw_extend_list l its.toArray n b its2.toArray n2 od osl hlong (by rw [List.size_toArray]; omega) (by omega)) ⟨e, ho, ?_⟩
    refine ⟨.non, _, I.lset (its' := its ++ its2) hH e (by simp) (r.append r2) ?_, rfl, q⟩
    rw [List.length_append]
    omega
  · obtain ⟨its2, r2, ⟨o, ho, hc, n2, hd⟩, _⟩ := I.tuple hB
    obtain ⟨hsz, hlong⟩ := core its2 r2
    obtain ⟨oc, od, odat, osl⟩ := o
    cases hc
    cases hd
    refine call_meets F.slot_list_extend ⟨_, e, rfl⟩ F.entry_list_extend (F.args_list_extend_2 _ _)
      (lw_extend_tuple l its.toArray n b its2.toArray n2 od osl hlong (by rw [List.size_toArray]; omega) (by omega)) ⟨e, ho, ?_⟩
    refine ⟨.non, _, I.lset (its' := its ++ its2) hH e (by simp) (r.append r2) ?_, rfl, q⟩
    rw [List.length_append]
    omega
theorem mt_extend2 {X : Cx} (hc : X.calm = true) : MtM X "list.extend" (fun x vs H Q => rExtendA X.K x vs H Q ∨ rExtendS x vs H Q) := by
  intro pins s σ H x vs v us Q I rx rv h
  rcases h with h | h
  · exact mt_extendA pins s σ H x vs v us Q I rx rv h
  · exact mt_extendS hc pins s σ H x vs v us Q I rx rv h
theorem sgs_rd {K : Fg} {Z : Hp} {ρ : List Addr} {z : Str} : RDs K Z ρ (signs z) (strsV z) := by
  unfold signs strsV
  induction z.cps.toList with
  | nil => exact .nil
  | cons c r ih => rw [List.map_cons, List.map_cons]; exact .cons (rd_str _) ih
section
variable {K : Fg} {cs : Nat → Option Addr} {cl : Cl} {fl : Nat → List Bool} {σ : L2.St} {H : Hp}
theorem i_extend {o e : E} {Q : VK} (h : rdE cs cl fl K (.mth .extend o (.cons e .nil)) σ H Q) : tBM K "list" (fun x vs H Q => rExtendA K x vs H Q ∨ rExtendS x vs H Q) (rdE cs cl fl K o) (rdH cs cl fl K (.cons e .nil)) σ H Q := by
  obtain ⟨Z, ρ, st, tm, I, F⟩ := h
  unfold Fit hd at F
  refine ⟨Z, ρ, st, tm, I, (W_bind.mp F).mono fun x s1 F Z1 ρ1 v H1 l1 p1 I1 hx => ?_⟩
  obtain ⟨p, w, F⟩ := look_ok (W_bind.mp F) I1 hx
  split at F
  · rename_i hr
    obtain ⟨xs, ep⟩ := recv_list (by decide) hr
    subst ep
    obtain ⟨a, vs, e1, ha, r1⟩ := w
    refine ⟨by subst e1; exact .inl ⟨rfl, _, SqL.of ha⟩, Z1, ρ1, s1, _, I1, (W_bind.mp F).mono fun ys s2 F Z2 ρ2 us H2 l2 p2 I2 hy => ?_⟩
    obtain ⟨os, w2, F⟩ := looks_ok (W_bind.mp F) I2 hy
    obtain ⟨xs, a, vs, zs, r, ea, ha, r1, hf, k⟩ := modL_ok (W_bind.mp F) I2.drops hx
    unfold mExtend at hf
    split at hf
    · obtain ⟨u0, eu, wu⟩ := Paired.one w2
      subst eu
      split at hf
      · rename_i ys hs
        obtain ⟨b, ws, e2, hb, r2⟩ := wu.sv I2.rel.le hs
        split at hf
        · rename_i hl
          cases hf
          obtain ⟨s5, F, I5⟩ := k (vs ++ ws) (r1.append r2)
          refine .inl ⟨a, b, vs, ws, ea, by rw [e2], ha, hb, ?_, F Z2 ρ2 _ _ (l1.trans l2) (p1.trans p2) (I5.dat rd_non) trivial⟩
          rw [r1.length, r2.length] at *
          exact of_decide_eq_true hl
        · cases hf
      · split at hf
        · rename_i z _
          split at hf
          · rename_i hl
            cases hf
            obtain ⟨s5, F, I5⟩ := k (vs ++ strsV z) (r1.append sgs_rd)
            refine .inr ⟨a, z, vs, ea, by rw [wu.rd.str], ha, ?_, F Z2 ρ2 _ _ (l1.trans l2) (p1.trans p2) (I5.dat rd_non) trivial⟩
            rw [r1.length] at hl
            exact of_decide_eq_true hl
          · cases hf
        · cases hf
    · cases hf
  · exact F.elim
end
end Lw

set_option Elab.async false
set_option linter.all false
set_option maxRecDepth 100000
set_option maxHeartbeats 8000000
/-! Lw, part 8: enumerate of a text -/
namespace Lw
open PySem L2 PySem.Spec PyProof.Rows
/-- the signs of a text, each in a new pair with its number -/
def ItS (x : Str) : It :=
  ⟨fun i _ => i < x.cps.size, fun i H v H' => ∃ T c, v = .ref T ∧ H T = none ∧ H' = upd H T (.tup [.int (i : Nat), .str ⟨#[c]⟩]) ∧ x.cps[i]? = some c, fun i _ => x.cps.size ≤ i⟩
theorem turn_enumS {P : Program} {w : World} {K : Fg} {elts : List Expr} {kk : Nat} {tpos : Pos} (x : Str) (t : Tok) (e it : Addr) :
    Turn P w K (.Tuple elts kk tpos) (ItS x) [e, it] e (fun i h => (∃ old, IsEnum h e it ((i : Nat) : Int) old) ∧ h.IsStrIter it (strIterType x) x t i ∧ e ≠ it ∧ i ≤ x.cps.size) where
  mem := List.mem_cons_self ..
  obj := fun i h st b hb => by
    obtain ⟨⟨old, he⟩, ⟨o, ho, hc, hd⟩, _⟩ := st
    rcases List.mem_cons.mp hb with z | z
    · subst z; exact ⟨_, he, fun v q => nomatch q⟩
    · have z := List.mem_singleton.mp z
      subst z; exact ⟨o, ho, fun v q => by rw [hd] at q; cases q⟩
  keep := fun i h h' st k => let ⟨⟨old, he⟩, ⟨o, ho, r⟩, hne, hi⟩ := st; ⟨⟨old, k e (List.mem_cons_self ..) _ he⟩, ⟨o, k it (List.mem_cons_of_mem _ (List.mem_singleton_self _)) o ho, r⟩, hne, hi⟩
  item := by
    intro X hP hw hK hc i pins s σ H E I hf st hg
    subst hP hw hK
    obtain ⟨⟨old, he⟩, hit, hne, hi⟩ := st
    have hel : e < s.heap.objs.size := Heap.lt_size he
    have hil : it < s.heap.objs.size := by obtain ⟨_, q, _⟩ := hit; exact Heap.lt_size q
    refine wpAny_pyNext_enum_itemD (Draws.text (A := X.A.in1) (I.ok.hd hc) it x t) he hit hg hne (fun z => hne (List.mem_singleton.mp z)) fun u h' tk hu ho hit' hT hsz hk => ?_
    obtain ⟨c, t2, hcx, eu⟩ := hu
    subst eu
    refine ⟨_, rfl, wpAny_letOwnedTupleGo_enum (s := { s with heap := h', toks := tk + 1 }) ho fun h'' he' sb => ?_⟩
    have hT2 := (sb.2 _ (Nat.ne_of_gt hel)).trans hT
    have new : ObjOk X.prog X.w (upd H s.heap.objs.size (.tup [.int (i : Nat), .str ⟨#[c]⟩])) h'' s.heap.objs.size (.tup [.int (i : Nat), .str ⟨#[c]⟩]) :=
      ⟨by show 2 ≤ sizeLine; decide, [.int i tk, .str ⟨#[c]⟩ t2], .cons ⟨_, rfl⟩ (.cons ⟨_, rfl⟩ .nil), ⟨_, hT2, rfl, _, rfl⟩⟩
    have I1 := I.turnedNew (t' := tk + 1) (ch := [e, it]) (fun b ob hb q => (sb.2 b (fun z => hb (by rw [z]; exact List.mem_cons_self ..))).trans (hk b ob (fun z => hb (by rw [z]; exact List.mem_cons_self ..)) (fun z => hb (by rw [z]; exact List.mem_cons_of_mem _ (List.mem_singleton_self _))) q)) hf (Nat.le_refl _) new
    obtain ⟨oo, ho2, rr⟩ := hit'
    refine ⟨.ref s.heap.objs.size, _, I1, rfl, ⟨_, c, rfl, I.hok.fresh (Nat.le_refl _), rfl, hcx⟩, ⟨⟨.str ⟨#[c]⟩ t2, ?_⟩, ⟨oo, (sb.2 it (Ne.symm hne)).trans ho2, rr⟩, hne, hg⟩, fun b hb => ?_⟩
    · have e1 : ((i + 1 : Nat) : Int) = (i : Int) + 1 := by omega
      rw [e1]; exact he'
    · have hb' : b < s.heap.objs.size := by
        rcases List.mem_cons.mp hb with z | z
        · rw [z]; exact hel
        · rw [List.mem_singleton.mp z]; exact hil
      rw [upd_ne (Nat.ne_of_lt hb')]
      exact (hf b hb).1
  done := by
    intro X hP hw hK hc i pins s σ H E I hf st hg
    subst hP hw hK
    obtain ⟨⟨old, he⟩, hit, hne, hi⟩ := st
    have hg : x.cps.size ≤ i := hg
    have ei : i = x.cps.size := Nat.le_antisymm hi hg
    subst ei
    obtain ⟨f0, f1, f2, f3, f4, f5⟩ := hf it (List.mem_cons_of_mem _ (List.mem_singleton_self _))
    exact wpAny_pyNext_enum_endD (Draws.text (A := X.A.in1) (I.ok.hd hc) it x t) he hit fun h' eb => ⟨rfl, I.turned (t' := s.toks) (fun b o hb q => eb b o hb q) f0 f1 f3 f4 f5⟩
  self := fun A i s Q E st h => let ⟨⟨_, he⟩, _⟩ := st; wpAny_pyIter_enum he h
section
variable {K : Fg} {Z H : Hp} {ρ : List Addr}
theorem numbered_at {xs : List D} {i : Nat} {d : D} (h : (numbered xs)[i]? = some d) : ∃ y, xs[i]? = some y ∧ d = .tup [.int (i : Nat), y] := by
  unfold numbered at h
  rw [List.getElem?_zipWith] at h
  cases e : xs[i]? with
  | none => rw [e] at h; cases hh : (List.range xs.length)[i]? <;> simp [hh] at h
  | some y =>
    have hi : i < xs.length := (List.getElem?_eq_some_iff.mp e).1
    rw [List.getElem?_range hi, e] at h
    simp at h
    exact ⟨y, rfl, h.symm⟩
theorem numbered_len (xs : List D) : (numbered xs).length = xs.length := by
  unfold numbered
  rw [List.length_zipWith, List.length_range, Nat.min_self]
theorem itS_ok (x : Str) : ItOk K Z ρ (ItS x) (numbered (signs x)) where
  go := fun i H l hi => by
    rw [numbered_len] at hi
    unfold signs at hi
    rw [List.length_map, Array.length_toList] at hi
    exact hi
  stop := fun i H l hi => by
    rw [numbered_len] at hi
    unfold signs at hi
    rw [List.length_map, Array.length_toList] at hi
    exact hi
  yld := fun i H v H' d l y hd => by
    obtain ⟨T, c, ev, hT, eH, hc⟩ := y
    obtain ⟨y, hy, ed⟩ := numbered_at hd
    unfold signs at hy
    rw [List.getElem?_map, Array.getElem?_toList, hc] at hy
    cases hy
    exact .inr ⟨T, _, _, ed, ev, hT, eH, .cons (rd_int _) (.cons (rd_str _) .nil)⟩
theorem itE_ok {a : Addr} {vs : List V} {xs : List D} (h : Z a = some (.lst vs)) (r : RDs K Z ρ xs vs) : ItOk K Z ρ (Ite K a) (numbered xs) where
  go := fun i H l hi => by
    rw [numbered_len] at hi
    exact ⟨vs, vs[i]'(by rw [← r.length]; exact hi), SqL.of (l _ _ h), List.getElem?_eq_getElem _⟩
  stop := fun i H l hi => by
    rw [numbered_len] at hi
    exact ⟨vs, SqL.of (l _ _ h), by rw [← r.length]; exact hi⟩
  yld := fun i H v H' d l y hd => by
    obtain ⟨T, x, ev, hT, eH, k⟩ := y
    obtain ⟨y, hy, ed⟩ := numbered_at hd
    obtain ⟨u, h1, h2⟩ := r.at hy
    have := k vs (SqL.of (l _ _ h))
    rw [h1] at this
    cases this
    exact .inr ⟨T, _, _, ed, ev, hT, eH, .cons (rd_int _) (.cons h2 .nil)⟩
end
section
variable {g : Gm} {cs : Nat → Option Addr} {cl : Cl} {fl : Nat → List Bool} {X : Cx}
/-- enumerate(e), a pair as the target -/
theorem r_enm {e : Expr} {a : E} {p pos tpos : Pos} {elts : List Expr} {kk : Nat} (hg : Gl X "enumerate") (hm : X.mg "enumerate" = none) (ha : PE X e (rdE cs cl fl X.K a)) (hs : starEach [e] X.env = [(false, eval e X.env)]) :
    PI X (.Tuple elts kk tpos) (.Call (.Name "enumerate" p) [e] [] pos) (rdI cs cl fl X.K (.enm a)) := by
  refine ⟨fun pins s σ H R I h => ?_⟩
  obtain ⟨Z, ρ, st, tm, J, F⟩ := h
  unfold its at F
  have F := W_bind.mp F
  obtain ⟨x1, s1, e1, F1⟩ := W_ok F
  obtain ⟨o, s2, e2, F2⟩ := W_ok (W_bind.mp F1)
  obtain ⟨y, s3, e3, F3⟩ := W_ok (W_bind.mp F2)
  obtain ⟨xs, e4, F4⟩ := W_opt (W_bind.mp F3)
  have main : ∀ v H1 Z1 ρ1, Le Z Z1 → Px ρ ρ1 → In X.K cs Z1 ρ1 H1 s1 σ (hT x1 v ++ tm) → hV x1 σ v → ∃ Z2, Le Z1 Z2 ∧ In X.K cs Z2 ρ1 H1 s3 σ tm ∧ RD X.K Z2 ρ1 y v := by
    intro v H1 Z1 ρ1 l1 p1 I1 hx
    obtain ⟨Z2, o', s2', l2, I2, eo⟩ := take_ok (G := fun a s => a = o ∧ s = s2) (by rw [e2]; exact ⟨rfl, rfl⟩) I1 hx
    obtain ⟨rfl, rfl⟩ := eo
    obtain ⟨Z3, y', l3, I3, r3, ey⟩ := asD_ok (G := fun a s => a = y ∧ s = s3) (by rw [e3]; exact ⟨rfl, rfl⟩) I2
    obtain ⟨rfl, rfl⟩ := ey
    exact ⟨Z3, l2.trans l3, I3, r3⟩
  have start : ∀ (Q : VK), (∀ v H1 Z1 ρ1, Le Z Z1 → Px ρ ρ1 → In X.K cs Z1 ρ1 H1 s3 σ tm → RD X.K Z1 ρ1 y v → Q v H1) → rdE cs cl fl X.K a σ H Q := fun Q q => ⟨Z, ρ, st, tm, J, by
    unfold Fit; rw [e1]
    intro Z1 ρ1 v H1 l1 p1 I1 hx
    obtain ⟨Z2, l2, I2, r2⟩ := main v H1 Z1 ρ1 l1 p1 I1 hx
    exact q v H1 Z2 ρ1 (l1.trans l2) p1 I2 r2⟩
  have pa : PA X [e] (tCons (rdE cs cl fl X.K a) tNil) := pa_cons ha pa_nil hs
  unfold itsOf at e4
  split at e4
  · rename_i zs he
    cases he
    exact F4.elim
  · rename_i zs he
    cases he; cases e4
    refine (pi_enum hg hm pa hs).run pins s σ H R I ?_
    refine start _ fun v H1 Z1 ρ1 l1 p1 I1 r1 => ?_
    obtain ⟨q, vs, ev, hq, rs⟩ := r1.lst
    exact ⟨q, vs, by rw [ev], SqL.of (I1.rel.le _ _ hq), F4 Z1 ρ1 H1 _ l1 p1 I1 (itE_ok hq rs)⟩
  · rename_i z he
    cases he; cases e4
    refine Call_ (ld_blt I hg hm boot_enumerate (PyProof.Rows.callWith_type1 (thn (pa.run pos pins s σ H (fun vs H1 => ∃ Z1 ρ1, Le Z Z1 ∧ Px ρ ρ1 ∧ In X.K cs Z1 ρ1 H1 s3 σ tm ∧ vs = [.str z]) I ?_) fun us s4 ⟨vs, H1, J1, r1, Z1, ρ1, l1, p1, I1, ev⟩ => ?_) hs rfl))
    · exact start _ fun v H1 Z1 ρ1 l1 p1 I1 r1 => ⟨Z1, ρ1, l1, p1, I1, by rw [r1.str]⟩
    · subst ev
      cases r1 with
      | cons r rr =>
        cases rr
        obtain ⟨t, r⟩ := r
        subst r
        refine call_enumerate_str fun h' he hit hsz hk => wpAny_pyIter_enum he ?_
        have I2 : L2.Inv X pins σ H1 { s4 with heap := h' } := J1.kept (t' := s4.toks) hk
        refine ⟨s4.heap.objs.size + 1, [s4.heap.objs.size + 1, s4.heap.objs.size], _, _, H1, rfl, I2, turn_enumS z t (s4.heap.objs.size + 1) s4.heap.objs.size, ⟨⟨.none, he⟩, hit, Nat.succ_ne_self _, Nat.zero_le _⟩, fun b hb => ?_, F4 Z1 ρ1 H1 _ l1 p1 I1 (itS_ok z)⟩
        have hle : s4.heap.objs.size ≤ b := by
          rcases List.mem_cons.mp hb with q | q
          · rw [q]; exact Nat.le_succ _
          · rw [List.mem_singleton.mp q]; exact Nat.le_refl _
        exact J1.fpOk hle (J1.hok.fresh hle)
  · cases e4
end
end Lw

set_option Elab.async false
set_option linter.all false
set_option maxRecDepth 100000
set_option maxHeartbeats 8000000
/-! Lw, part 9: list comprehensions -/
namespace Lw
open PySem L2 PySem.Spec PyProof.Rows
theorem wipeE_len (e : List O) : ∀ own : List Nat, (wipeE e own).length = e.length
  | [] => rfl
  | i :: r => by unfold wipeE; rw [List.length_set, wipeE_len e r]
theorem wipeE_out {e : List O} {k : Nat} : ∀ {own : List Nat}, k ∉ own → (wipeE e own)[k]? = e[k]?
  | [], h => rfl
  | i :: r, h => by
    unfold wipeE
    rw [List.getElem?_set_ne (fun q => h (by rw [q]; exact List.mem_cons_self ..))]
    exact wipeE_out fun q => h (List.mem_cons_of_mem _ q)
theorem wipeE_in {e : List O} {k : Nat} : ∀ {own : List Nat}, k ∈ own → k < e.length → (wipeE e own)[k]? = some .hole
  | i :: r, h, hk => by
    unfold wipeE
    by_cases q : i = k
    · subst q; rw [List.getElem?_set_self (by rw [wipeE_len]; exact hk)]
    · rw [List.getElem?_set_ne q]
      rcases List.mem_cons.mp h with z | z
      · exact absurd z.symm q
      · exact wipeE_in z hk
theorem wipe_out' {σ : L2.St} {k : Nat} : ∀ {own : List Nat}, k ∉ own → (wipe σ own)[k]? = σ[k]?
  | [], h => rfl
  | i :: r, h => by
    unfold wipe
    rw [List.getElem?_set_ne (fun q => h (by rw [q]; exact List.mem_cons_self ..))]
    exact wipe_out' fun q => h (List.mem_cons_of_mem _ q)
theorem wipe_in {σ : L2.St} {k : Nat} : ∀ {own : List Nat}, k ∈ own → k < σ.length → (wipe σ own)[k]? = some none
  | i :: r, h, hk => by
    unfold wipe
    by_cases q : i = k
    · subst q; rw [List.getElem?_set_self (by rw [wipe_length]; exact hk)]
    · rw [List.getElem?_set_ne q]
      rcases List.mem_cons.mp h with z | z
      · exact absurd z.symm q
      · exact wipe_in z hk
theorem wipe_sm {σ σ2 : L2.St} {own : List Nat} (h : Sm own (wipe σ own) σ2) : wipe σ2 own = wipe σ own := by
  have hl : σ2.length = σ.length := by rw [h.1, wipe_length]
  apply List.ext_getElem?
  intro k
  by_cases hk : k ∈ own
  · by_cases hb : k < σ.length
    · rw [wipe_in hk hb, wipe_in hk (by rw [hl]; exact hb)]
    · rw [List.getElem?_eq_none (by rw [wipe_length]; omega), List.getElem?_eq_none (by rw [wipe_length]; omega)]
  · rw [wipe_out' hk, h.2 k hk]
theorem Sm.sub {L M : List Nat} {a b : L2.St} (h : Sm L a b) (k : ∀ i ∈ L, i ∈ M) : Sm M a b := ⟨h.1, fun i hi => h.2 i fun z => hi (k i z)⟩
theorem backE_set {e0 : List O} : ∀ {r : List Nat} {X : List O} {i : Nat} {a : O}, i ∉ r → backE e0 (X.set i a) r = (backE e0 X r).set i a
  | [], X, i, a, h => rfl
  | j :: r, X, i, a, h => by
    unfold backE
    rw [backE_set fun q => h (List.mem_cons_of_mem _ q)]
    exact List.set_comm _ _ fun q => h (by rw [q]; exact List.mem_cons_self ..)
theorem wipeE_set {r : List Nat} {X : List O} {i : Nat} {a : O} (h : i ∉ r) : wipeE (X.set i a) r = (wipeE X r).set i a := by
  induction r with
  | nil => rfl
  | cons j r ih =>
    unfold wipeE
    rw [ih fun q => h (List.mem_cons_of_mem _ q)]
    exact List.set_comm _ _ fun q => h (by rw [q]; exact List.mem_cons_self ..)
section
variable {K : Fg} {cs : Nat → Option Addr} {cl : Cl} {fl : Nat → List Bool} {Z Z' H H' : Hp} {ρ ρ' : List Addr} {st : St} {σ σ' : L2.St} {tm : List Th}
theorem set_getD {α : Type} {l : List α} {i : Nat} {d : α} (h : i < l.length) : l.set i (l.getD i d) = l := by
  apply List.ext_getElem?
  intro k
  by_cases q : i = k
  · subst q
    rw [List.getElem?_set_self h, List.getD_eq_getElem?_getD, List.getElem?_eq_getElem h]; rfl
  · rw [List.getElem?_set_ne q]
/-- a block's own slots are forgotten; what stood there is kept aside -/
theorem In.wipe (cs : Nat → Option Addr) (K : Fg) (σ : L2.St) (e : List O) (hl : e.length = σ.length) : ∀ own : List Nat, own.Nodup → (∀ i ∈ own, i < e.length) → ∃ sv : List Th,
    (∀ Z ρ H h tm, In K cs Z ρ H ⟨e, h⟩ σ tm → In K cs Z ρ H ⟨wipeE e own, h⟩ (wipe σ own) (sv ++ tm)) ∧
    (∀ Z ρ H h e2 tm, e2.length = e.length → In K cs Z ρ H ⟨wipeE e2 own, h⟩ (wipe σ own) (sv ++ tm) → In K cs Z ρ H ⟨backE e (wipeE e2 own) own, h⟩ σ tm)
  | [], _, _ => ⟨[], fun _ _ _ _ _ I => I, fun _ _ _ _ _ _ _ I => I⟩
  | i :: r, nd, hb => by
    obtain ⟨ni, nd⟩ := List.nodup_cons.mp nd
    have hi : i < e.length := hb i (List.mem_cons_self ..)
    obtain ⟨sv, f1, f2⟩ := In.wipe cs K σ e hl r nd fun k hk => hb k (List.mem_cons_of_mem _ hk)
    refine ⟨(e.getD i .hole, σ.getD i none) :: sv, fun Z ρ H h tm I => ?_, fun Z ρ H h e2 tm h2 I => ?_⟩
    · have J := f1 Z ρ H h tm I
      have J2 : In K cs Z ρ H ⟨wipeE e r, h⟩ (L2.wipe σ r) ((.hole, none) :: (sv ++ tm)) := .back J.len (J.rel.hole none)
      have J3 := J2.put2 (i := i) (by rw [wipeE_len]; exact hi)
      have e1 : (wipeE e r).getD i .hole = e.getD i .hole := by rw [List.getD_eq_getElem?_getD, List.getD_eq_getElem?_getD, wipeE_out ni]
      have e2 : (L2.wipe σ r).getD i none = σ.getD i none := by rw [List.getD_eq_getElem?_getD, List.getD_eq_getElem?_getD, wipe_out' ni]
      have J4 : In K cs Z ρ H ⟨(wipeE e r).set i .hole, h⟩ ((L2.wipe σ r).set i none) (((wipeE e r).getD i .hole, (L2.wipe σ r).getD i none) :: (sv ++ tm)) := J3
      rw [e1, e2] at J4
      exact J4
    · have I : In K cs Z ρ H ⟨(wipeE e2 r).set i .hole, h⟩ ((L2.wipe σ r).set i none) ((e.getD i .hole, σ.getD i none) :: (sv ++ tm)) := I
      have J := (I.put2 (i := i) (by show i < ((wipeE e2 r).set i .hole).length; rw [List.length_set, wipeE_len, h2]; exact hi)).drop
      have J : In K cs Z ρ H ⟨((wipeE e2 r).set i .hole).set i (e.getD i .hole), h⟩ (((L2.wipe σ r).set i none).set i (σ.getD i none)) (sv ++ tm) := J
      rw [List.set_set, List.set_set, ← wipeE_set ni] at J
      have e3 : (L2.wipe σ r).set i (σ.getD i none) = L2.wipe σ r := by
        have : σ.getD i none = (L2.wipe σ r).getD i none := by rw [List.getD_eq_getElem?_getD, List.getD_eq_getElem?_getD, wipe_out' ni]
        rw [this]
        exact set_getD (by rw [wipe_length, ← hl]; exact hi)
      rw [e3] at J
      have J2 := f2 Z ρ H h (e2.set i (e.getD i .hole)) tm (by rw [List.length_set, h2]) J
      have e4 : backE e (wipeE e2 (i :: r)) (i :: r) = backE e (wipeE (e2.set i (e.getD i .hole)) r) r := by
        show (backE e ((wipeE e2 r).set i .hole) r).set i (e.getD i .hole) = _
        rw [wipeE_set ni, backE_set ni, backE_set ni, List.set_set]
      rw [e4]
      exact J2
theorem In.wipes {own : List Nat} (I : In K cs Z ρ H st σ tm) (nd : own.Nodup) (hb : ∀ i ∈ own, i < st.e.length) : In K cs Z ρ H ⟨wipeE st.e own, st.h⟩ (L2.wipe σ own) tm := by
  obtain ⟨sv, f1, _⟩ := In.wipe cs K σ st.e I.len own nd hb
  exact (f1 _ _ _ _ _ I).drops
/-- the turn of a comprehension -/
def turn (cl : Cl) (fl : Nat → List Bool) (elt t cond : E) (own : List Nat) (x : D) : M (Option D) := fun s => ((asg cl fl t (.d x)).bind fun _ => (hd cl fl cond).bind fun z => (truth z).bind fun k =>
  if k then (hd cl fl elt).bind fun y => (take y).bind fun o => (stow (fresh elt) o).bind fun v => ret (some v) else ret none) { s with e := wipeE s.e own }
theorem i_comp {elt t it cond : E} {own : List Nat} {Q : VK} (nd : own.Nodup) (hb : ∀ i ∈ own, i < σ.length) (ht : ∀ k ∈ tgv t, k ∈ own) (h : rdE cs cl fl K (.comp elt t it cond own) σ H Q) :
    tLc (rdI cs cl fl K it) (rdG cs cl fl K t) (rdT cs cl fl K cond) (rdE cs cl fl K elt) own σ H Q := by
  obtain ⟨Z, ρ, st, tm, I, F⟩ := h
  unfold Fit hd at F
  refine ⟨Z, ρ, st, tm, I, (W_bind.mp F).mono fun xs s1 F Z1 ρ1 H1 J l1 p1 I1 ok D hD => ?_⟩
  have F : W (compL (turn cl fl elt t cond own) xs [] s1) fun os s' => ∀ Z' ρ' v H', Le Z Z' → Px ρ ρ' → In K cs Z' ρ' H' ⟨backE s1.e (wipeE s'.e own) own, s'.h⟩ σ ((.lst os, some v) :: tm) → Q v H' := by
    have F : W (match compL (turn cl fl elt t cond own) xs [] s1 with
        | .ok os s' => Res.ok (Hd.tmp (.lst os)) { s' with e := backE s1.e (wipeE s'.e own) own }
        | .exc c v s' => .exc c v s'
        | .bad => .bad) _ := F
    revert F
    cases compL (turn cl fl elt t cond own) xs [] s1 with
    | bad => exact fun F => F
    | exc c v s => exact fun F => F
    | ok os s' => exact fun F Z' ρ' v H' l p I => F Z' ρ' v H' l p I trivial
  have hb1 : ∀ i ∈ own, i < s1.e.length := fun i hi => by rw [I1.len]; exact hb i hi
  obtain ⟨sv, f1, f2⟩ := In.wipe cs K σ s1.e I1.len own nd hb1
  refine ⟨fun i m H' => m = xs.length - i ∧ i ≤ xs.length ∧ ∃ Z2 ρ2 s2 acc, Le Z1 Z2 ∧ Px ρ1 ρ2 ∧ s2.e.length = s1.e.length ∧ In K cs Z2 ρ2 H' ⟨wipeE s2.e own, s2.h⟩ (L2.wipe σ own) ((.lst acc, some (.ref D)) :: (sv ++ tm)) ∧
    W (compL (turn cl fl elt t cond own) (xs.drop i) acc s2) fun os s' => ∀ Z' ρ' v H', Le Z Z' → Px ρ ρ' → In K cs Z' ρ' H' ⟨backE s1.e (wipeE s'.e own) own, s'.h⟩ σ ((.lst os, some v) :: tm) → Q v H',
    ⟨xs.length, by simp, Nat.zero_le _, Z1, ρ1, s1, [], Le.refl _, Px.refl _, rfl, ?_, F⟩, ?_⟩
  · have J1 := f1 Z1 ρ1 H1 s1.h tm I1
    exact .back J1.len (J1.rel.newL hD .nil)
  · rintro i m H2 ⟨rfl, hi, Z2, ρ2, s2, acc, l2, p2, hl2, I2, F2⟩
    by_cases hlt : i < xs.length
    · right
      refine ⟨ok.go i H2 (l2.trans I2.rel.le) hlt, _, fun H' N => ⟨_, Nat.sub_lt_sub_left hlt (Nat.lt_succ_self i), N⟩, fun x H3 hy => ?_⟩
      obtain ⟨d, hd⟩ : ∃ d, xs[i]? = some d := ⟨xs[i], List.getElem?_eq_getElem hlt⟩
      have ed : xs.drop i = d :: xs.drop (i + 1) := by
        rw [List.drop_eq_getElem_cons hlt]
        rw [List.getElem?_eq_getElem hlt] at hd
        cases hd; rfl
      rw [ed] at F2
      unfold compL at F2
      have F2 := W_bind.mp F2
      -- the item
      have item : ∃ Z3, Le Z2 Z3 ∧ In K cs Z3 ρ2 H3 ⟨wipeE s2.e own, s2.h⟩ (L2.wipe σ own) ((.d d, some x) :: ((.lst acc, some (.ref D)) :: (sv ++ tm))) := by
        rcases ok.yld i H2 x H3 d (l2.trans I2.rel.le) hy hd with ⟨e1, r⟩ | ⟨p, ds, vs, e1, e2, hp, e3, r⟩
        · subst e1
          exact ⟨Z2, Le.refl _, I2.dat (RD.mono l2 p2 _ _ r)⟩
        · subst e1; subst e2; subst e3
          obtain ⟨l, R⟩ := I2.rel.newT hp (RDs.mono l2 p2 _ _ r)
          exact ⟨_, l, .back I2.len R⟩
      obtain ⟨Z3, l3, I3⟩ := item
      refine ⟨Z3, ρ2, _, _, .d d, I3, ?_⟩
      unfold turn at F2
      refine (W_bind.mp F2).mono fun _ s3 F3 Z4 ρ4 σ4 H4 l4 p4 m4 I4 => ?_
      have m5 := wipe_sm (m4.sub ht)
      refine ⟨m5, Z4, ρ4, s3, _, I4, W_bind.mpr ((W_bind.mp F3).mono fun z s4 F4 => (W_bind.mp F4).mono fun b s5 F5 Z5 ρ5 H5 l5 p5 I5 => ?_)⟩
      have len5 : s5.e.length = s1.e.length := by rw [I5.len, m4.1, wipe_length, I1.len]
      cases b with
      | false =>
        simp only [Bool.false_eq_true, if_false] at F5 ⊢
        refine ⟨trivial, hlt, Z5, ρ5, s5, acc, l2.trans (l3.trans (l4.trans l5)), p2.trans (p4.trans p5), len5, ?_, F5⟩
        have := I5.wipes nd (fun i hi => by rw [len5]; exact hb1 i hi)
        rw [m5] at this
        exact this
      | true =>
        simp only [if_true] at F5 ⊢
        refine ⟨Z5, ρ5, s5, _, I5, (W_bind.mp F5).mono fun y s6 F6 Z6 ρ6 v H6 l6 p6 I6 hy => ?_⟩
        obtain ⟨Z7, o, s7, l7, I7, F7⟩ := take_ok (W_bind.mp F6) I6 hy
        obtain ⟨Z8, ρ8, dd, s8, l8, p8, I8, r8, F8⟩ := stow_ok (W_bind.mp F7) I7
        have F8 : W (if decide (acc.length < sizeLine) = true then compL (turn cl fl elt t cond own) (xs.drop (i + 1)) (acc ++ [dd]) s8 else .bad) _ := F8
        have len8 : s8.e.length = s1.e.length := by rw [I8.len, m4.1, wipe_length, I1.len]
        split at F8
        · rename_i hz
          obtain ⟨a, vs, ea, ha, r1, R⟩ := I8.front.openL
          cases ea
          refine ⟨vs, ha, by rw [← r1.length]; exact of_decide_eq_true hz, trivial, hlt, Z8, ρ8, s8, acc ++ [dd], l2.trans (l3.trans (l4.trans (l5.trans (l6.trans (l7.trans l8))))), p2.trans (p4.trans (p5.trans (p6.trans p8))), len8, ?_, F8⟩
          have R2 : Rel K cs [D] Z8 ρ8 (upd H6 D (.lst (vs ++ [v]))) s8.h (s8.e.zip σ4 ++ (sv ++ tm)) := R.set (List.mem_singleton_self _)
          have I9 : In K cs Z8 ρ8 (upd H6 D (.lst (vs ++ [v]))) s8 σ4 ((.lst (acc ++ [dd]), some (.ref D)) :: (sv ++ tm)) := .back I8.len (R2.closeL upd_same (r1.append (.cons r8 .nil)))
          have := I9.wipes nd (fun i hi => by rw [len8]; exact hb1 i hi)
          rw [m5] at this
          exact this
        · exact F8.elim
    · left
      have ei : i = xs.length := by omega
      subst ei
      refine ⟨ok.stop _ H2 (l2.trans I2.rel.le) (Nat.le_refl _), ?_⟩
      rw [List.drop_length] at F2
      unfold compL at F2
      have F2 := W_ret.mp F2
      refine F2 Z2 ρ2 _ H2 (l1.trans l2) (p1.trans p2) (f2 Z2 ρ2 H2 s2.h s2.e _ hl2 ?_)
      exact I2.perm List.perm_middle.symm
end
end Lw

set_option Elab.async false
set_option linter.all false
set_option maxRecDepth 100000
set_option maxHeartbeats 8000000
/-! Lw: a list comprehension with two for; how many texts a set comprehension has; a call by defaults -/
namespace Lw
open PySem L2 PySem.Spec PyProof.Rows
section
variable {K : Fg} {cs : Nat → Option Addr} {cl : Cl} {fl : Nat → List Bool} {Z Z' H H' : Hp} {ρ ρ' : List Addr} {st : St} {σ σ' : L2.St} {tm : List Th}
/-- what a walk hands out stands ahead of the other things -/
theorem item_in {J : It} {xs : List D} {i : Nat} {d : D} {x : V} {Z0 : Hp} {ρ0 : List Addr} {e : List O} {h : List O} (ok : ItOk K Z0 ρ0 J xs) (l : Le Z0 Z) (p : Px ρ0 ρ) (I : In K cs Z ρ H ⟨e, h⟩ σ tm) (hy : J.yld i H x H') (hd : xs[i]? = some d) :
    ∃ Z3, Le Z Z3 ∧ In K cs Z3 ρ H' ⟨e, h⟩ σ ((.d d, some x) :: tm) := by
  rcases ok.yld i H x H' d (l.trans I.rel.le) hy hd with ⟨e1, r⟩ | ⟨q, ds, vs, e1, e2, hp, e3, r⟩
  · subst e1
    exact ⟨Z, Le.refl _, I.dat (RD.mono l p _ _ r)⟩
  · subst e1; subst e2; subst e3
    obtain ⟨k, R⟩ := I.rel.newT hp (RDs.mono l p _ _ r)
    exact ⟨_, k, .back I.len R⟩
theorem drop_at {α : Type} {xs : List α} {i : Nat} (h : i < xs.length) : ∃ d, xs[i]? = some d ∧ xs.drop i = d :: xs.drop (i + 1) := ⟨xs[i], List.getElem?_eq_getElem h, List.drop_eq_getElem_cons h⟩
/-! ### how many texts -/
def rLenK (P : Program) (w : World) : List V → Hp → VK → Prop := fun vs H Q => ∃ a S n, vs = [.ref a] ∧ H a = some (SetK P w a S n) ∧ Q (.int n) H
theorem cr_lenK {X : Cx} : CallR X (.builtin "len") (rLenK X.prog X.w) := by
  intro pins s σ H vs us Q I r h
  obtain ⟨a, S, n, rfl, ha, q⟩ := h
  rw [Vals.ref1 r]
  obtain ⟨o, es, ep, t, ho, hex, hd, _, _, hb, hf, hn⟩ := setK_get I ha
  have fits : (es.size : Int) < 2 ^ 63 := by have : es.size < 4096 := hb; omega
  exact call_len_set ho hex hd hf fits ⟨.int n, H, I.tok _, ⟨_, by rw [hn]⟩, q⟩
def sOf (acc : List Str) : L2.Key → Bool
  | .inl _ => false
  | .inr x => decide (x ∈ acc)
theorem sOf_nil : sOf [] = fun _ => false := by funext j; cases j <;> simp [sOf]
theorem sOf_add (acc : List Str) (z : Str) : (fun j => sOf acc j || decide (j = .inr z)) = sOf (addS acc z) := by
  funext j
  unfold addS
  by_cases h : z ∈ acc
  · rw [if_pos (by simpa using h)]
    cases j with
    | inl i => simp [sOf]
    | inr x =>
      simp only [sOf, Sum.inr.injEq]
      by_cases q : x = z
      · subst q; simp [h]
      · simp [q]
  · rw [if_neg (by simpa using h)]
    cases j with
    | inl i => simp [sOf]
    | inr x => simp [sOf, Bool.decide_or]
theorem sOf_len (acc : List Str) (z : Str) : (if sOf acc (.inr z) = true then acc.length else acc.length + 1) = (addS acc z).length := by
  unfold addS
  by_cases h : z ∈ acc <;> simp [sOf, h]
def turnS (cl : Cl) (fl : Nat → List Bool) (elt t cond : E) (own : List Nat) (x : D) : M (Option Str) := fun s => ((asg cl fl t (.d x)).bind fun _ => (hd cl fl cond).bind fun z => (truth z).bind fun k =>
  if k then (hd cl fl elt).bind fun y => (match y with | .tmp (.d (.str z)) => ret (some z) | _ => die) else ret none) { s with e := wipeE s.e own }
theorem i_slenC {P : Program} {w : World} {elt t it cond : E} {own : List Nat} {Q : VK} (nd : own.Nodup) (hb : ∀ i ∈ own, i < σ.length) (ht : ∀ k ∈ tgv t, k ∈ own) (h : rdE cs cl fl K (.slenC elt t it cond own) σ H Q) :
    tSetC P w (rdI cs cl fl K it) (rdG cs cl fl K t) (rdT cs cl fl K cond) (rdE cs cl fl K elt) own σ H (fun v H' => rLenK P w [v] H' Q) := by
  obtain ⟨Z, ρ, st, tm, I, F⟩ := h
  unfold Fit hd at F
  refine ⟨Z, ρ, st, tm, I, (W_bind.mp F).mono fun xs s1 F Z1 ρ1 H1 J l1 p1 I1 ok D hD => ?_⟩
  have F : W (compS (turnS cl fl elt t cond own) xs [] s1) fun os s' => ∀ Z' ρ' v H', Le Z Z' → Px ρ ρ' → In K cs Z' ρ' H' ⟨backE s1.e (wipeE s'.e own) own, s'.h⟩ σ ((.d (.int os.length), some v) :: tm) → Q v H' := by
    have F : W (match compS (turnS cl fl elt t cond own) xs [] s1 with
        | .ok os s' => Res.ok (Hd.tmp (.d (.int os.length))) { s' with e := backE s1.e (wipeE s'.e own) own }
        | .exc c v s' => .exc c v s'
        | .bad => .bad) _ := F
    revert F
    cases compS (turnS cl fl elt t cond own) xs [] s1 with
    | bad => exact fun F => F
    | exc c v s => exact fun F => F
    | ok os s' => exact fun F Z' ρ' v H' l p I => F Z' ρ' v H' l p I trivial
  have hb1 : ∀ i ∈ own, i < s1.e.length := fun i hi => by rw [I1.len]; exact hb i hi
  obtain ⟨sv, f1, f2⟩ := In.wipe cs K σ s1.e I1.len own nd hb1
  refine ⟨fun i m H' => m = xs.length - i ∧ i ≤ xs.length ∧ ∃ Z2 ρ2 s2 acc, Le Z1 Z2 ∧ Px ρ1 ρ2 ∧ s2.e.length = s1.e.length ∧ In K cs Z2 ρ2 H' ⟨wipeE s2.e own, s2.h⟩ (L2.wipe σ own) ((.opq (SetK P w D (sOf acc) acc.length), some (.ref D)) :: (sv ++ tm)) ∧
    W (compS (turnS cl fl elt t cond own) (xs.drop i) acc s2) fun os s' => ∀ Z' ρ' v H', Le Z Z' → Px ρ ρ' → In K cs Z' ρ' H' ⟨backE s1.e (wipeE s'.e own) own, s'.h⟩ σ ((.d (.int os.length), some v) :: tm) → Q v H',
    ⟨xs.length, by simp, Nat.zero_le _, Z1, ρ1, s1, [], Le.refl _, Px.refl _, rfl, ?_, F⟩, ?_⟩
  · have J1 := f1 Z1 ρ1 H1 s1.h tm I1
    rw [sOf_nil]
    exact .back J1.len ((J1.rel.alloc hD).closeQ upd_same)
  · rintro i m H2 ⟨rfl, hi, Z2, ρ2, s2, acc, l2, p2, hl2, I2, F2⟩
    by_cases hlt : i < xs.length
    · right
      refine ⟨ok.go i H2 (l2.trans I2.rel.le) hlt, _, fun H' N => ⟨_, Nat.sub_lt_sub_left hlt (Nat.lt_succ_self i), N⟩, fun x H3 hy => ?_⟩
      obtain ⟨d, hd, ed⟩ := drop_at hlt
      rw [ed] at F2
      unfold compS at F2
      have F2 := W_bind.mp F2
      obtain ⟨Z3, l3, I3⟩ := item_in ok l2 p2 I2 hy hd
      refine ⟨Z3, ρ2, _, _, .d d, I3, ?_⟩
      unfold turnS at F2
      refine (W_bind.mp F2).mono fun _ s3 F3 Z4 ρ4 σ4 H4 l4 p4 m4 I4 => ?_
      have m5 := wipe_sm (m4.sub ht)
      refine ⟨m5, Z4, ρ4, s3, _, I4, W_bind.mpr ((W_bind.mp F3).mono fun z s4 F4 => (W_bind.mp F4).mono fun b s5 F5 Z5 ρ5 H5 l5 p5 I5 => ?_)⟩
      have len5 : s5.e.length = s1.e.length := by rw [I5.len, m4.1, wipe_length, I1.len]
      cases b with
      | false =>
        simp only [Bool.false_eq_true, if_false] at F5 ⊢
        refine ⟨trivial, hlt, Z5, ρ5, s5, acc, l2.trans (l3.trans (l4.trans l5)), p2.trans (p4.trans p5), len5, ?_, F5⟩
        have := I5.wipes nd (fun i hi => by rw [len5]; exact hb1 i hi)
        rw [m5] at this
        exact this
      | true =>
        simp only [if_true] at F5 ⊢
        refine ⟨Z5, ρ5, s5, _, I5, (W_bind.mp F5).mono fun y s6 F6 Z6 ρ6 v H6 l6 p6 I6 hy => ?_⟩
        have len6 : s6.e.length = s1.e.length := by rw [I6.len, m4.1, wipe_length, I1.len]
        split at F6
        · rename_i z
          have F6 := W_ret.mp F6
          dsimp only at F6
          by_cases hz : acc.length < 4000
          · rw [if_pos (decide_eq_true hz)] at F6
            have I6 : In K cs Z6 ρ6 H6 s6 σ4 ((.d (.str z), some v) :: ((.opq (SetK P w D (sOf acc) acc.length), some (.ref D)) :: (sv ++ tm))) := I6
            have ev := I6.rd.str
            subst ev
            obtain ⟨a, ea, ha, R⟩ := I6.drop.front.openQ
            cases ea
            have room : acc.length + 1 < scanBound := by show acc.length + 1 < 4096; omega
            refine ⟨.inr z, sOf acc, acc.length, rfl, ha, room, trivial, hlt, Z6, ρ6, s6, addS acc z, l2.trans (l3.trans (l4.trans (l5.trans l6))), p2.trans (p4.trans (p5.trans p6)), len6, ?_, F6⟩
            rw [sOf_add, sOf_len]
            have I9 : In K cs Z6 ρ6 (upd H6 D (SetK P w D (sOf (addS acc z)) (addS acc z).length)) s6 σ4 ((.opq (SetK P w D (sOf (addS acc z)) (addS acc z).length), some (.ref D)) :: (sv ++ tm)) :=
              .back I6.len ((R.set (List.mem_cons_self ..)).closeQ upd_same)
            have := I9.wipes nd (fun i hi => by rw [len6]; exact hb1 i hi)
            rw [m5] at this
            exact this
          · rw [if_neg (fun q => hz (of_decide_eq_true q))] at F6
            exact F6.elim
        · exact F6.elim
    · left
      have ei : i = xs.length := by omega
      subst ei
      refine ⟨ok.stop _ H2 (l2.trans I2.rel.le) (Nat.le_refl _), ?_⟩
      rw [List.drop_length] at F2
      unfold compS at F2
      have F2 := W_ret.mp F2
      obtain ⟨a, ea, ha, R⟩ := I2.front.openQ
      cases ea
      refine ⟨D, _, _, rfl, ha, F2 Z2 ρ2 _ H2 (l1.trans l2) (p1.trans p2) (In.dat (f2 Z2 ρ2 H2 s2.h s2.e _ hl2 I2.drop) (rd_int _))⟩
/-! ### len(set(whole numbers)) -/
theorem i_slen {a : E} {Q : VK} (h : rdE cs cl fl K (.slen a) σ H Q) : tLenSetI K (rdE cs cl fl K a) σ H Q := by
  obtain ⟨Z, ρ, st, tm, I, F⟩ := h
  unfold Fit hd at F
  refine ⟨Z, ρ, st, tm, I, (W_bind.mp F).mono fun x s1 F Z1 ρ1 v H1 l1 p1 I1 hx => ?_⟩
  obtain ⟨pa, w1, F⟩ := look_ok (W_bind.mp F) I1 hx
  obtain ⟨r, e, F⟩ := W_opt (W_bind.mp F)
  have I2 : In K cs Z1 ρ1 H1 s1 σ tm := I1.drops
  have q : Ans K cs Z1 ρ1 s1.h (s1.e.zip σ ++ tm) r Q := fun v H' Z' l' R => F Z' ρ1 v H' (l1.trans l') p1 (I2.ans R) trivial
  unfold bSlen at e
  split at e
  · rename_i xs e0
    split at e
    · rename_i ns e1
      split at e
      · rename_i hn
        simp only [Bool.and_eq_true, decide_eq_true_eq] at hn
        cases e
        obtain ⟨p, vs, ev, s1, r1⟩ := w1.lv I2.rel.le e0
        obtain ⟨h1, h2⟩ := ints_rel e1 r1
        exact ⟨p, ns, ev, by rw [← h2]; exact SqL.of s1, hn.1, hn.2, q.dat I2.rel (rd_int _)⟩
      · cases e
    · cases e
  · cases e
/-! ### a call by defaults -/
theorem rd_key (k : L2.Key) : RD K Z ρ (keyD k) (kV k) := by cases k <;> (unfold keyD kV; first | exact rd_int _ | exact rd_str _)
theorem In.keys : ∀ {ks : List L2.Key}, In K cs Z ρ H st σ tm → In K cs Z ρ H st σ ((ks.map fun k => Lw.O.d (keyD k)).zip ((ks.map kV).map some) ++ tm)
  | [], I => I
  | k :: ks, I => (In.keys (ks := ks) I).dat (rd_key k)
theorem i_callD {f : Nat} {es : E} {ks : List L2.Key} {n : Nat} {Q : VK} (hn : ∀ os h o h', cl.fn f os h = .ok o h' → os.length = n) (h : rdE cs cl fl K (.callD f es ks) σ H Q) : tCallD K cs (cl.fn f) (ks.map kV) n (rdO cs K (avs cl fl (fl f) es)) σ H Q := by
  obtain ⟨Z, ρ, st, tm, I, F⟩ := h
  unfold Fit hd at F
  refine ⟨Z, ρ, st, tm, I, (W_bind.mp F).mono fun os s1 F Z1 ρ1 vs H1 l1 p1 hl I1 => ?_⟩
  cases hr : cl.fn f (os ++ ks.map fun k => .d (keyD k)) s1.h with
  | bad => rw [hr] at F; exact F.elim
  | exc c v h => rw [hr] at F; exact F.elim
  | ok o h' =>
    rw [hr] at F
    have lens := hn _ _ _ _ hr
    rw [List.length_append, List.length_map] at lens
    have I2 : In K cs Z1 ρ1 H1 s1 σ ((os ++ ks.map fun k => Lw.O.d (keyD k)).zip ((vs ++ ks.map kV).map some) ++ tm) := by
      rw [List.map_append, List.zip_append (by rw [List.length_map, hl])]
      have := In.keys (ks := ks) I1
      exact this.perm (by rw [List.append_assoc]; exact List.perm_append_comm_assoc _ _ _)
    refine ⟨by rw [← hl, List.length_map]; exact lens, Z1, ρ1, s1.h, _, s1.e.zip σ ++ tm, by simp [hl], I2.rel.perm (List.perm_append_comm_assoc _ _ _), ?_⟩
    rw [hr]
    intro Z2 ρ2 v H2 l2 p2 R
    exact F Z2 ρ2 v H2 (l1.trans l2) (p1.trans p2) (.back (st := ⟨s1.e, h'⟩) I1.len R) trivial
/-! ### two for -/
theorem wipe_sub {σ : L2.St} {a b : List Nat} (h : ∀ i ∈ a, i ∈ b) : L2.wipe (L2.wipe σ a) b = L2.wipe σ b := by
  apply List.ext_getElem?
  intro k
  by_cases hk : k ∈ b
  · by_cases hl : k < σ.length
    · rw [wipe_in hk (by rw [wipe_length]; exact hl), wipe_in hk hl]
    · rw [List.getElem?_eq_none (by rw [wipe_length, wipe_length]; omega), List.getElem?_eq_none (by rw [wipe_length]; omega)]
  · rw [wipe_out' hk, wipe_out' hk, wipe_out' fun q => hk (h k q)]
theorem wipeE_sub {e : List O} {a b : List Nat} (h : ∀ i ∈ a, i ∈ b) : wipeE (wipeE e a) b = wipeE e b := by
  apply List.ext_getElem?
  intro k
  by_cases hk : k ∈ b
  · by_cases hl : k < e.length
    · rw [wipeE_in hk (by rw [wipeE_len]; exact hl), wipeE_in hk hl]
    · rw [List.getElem?_eq_none (by rw [wipeE_len, wipeE_len]; omega), List.getElem?_eq_none (by rw [wipeE_len]; omega)]
  · rw [wipeE_out hk, wipeE_out hk, wipeE_out fun q => hk (h k q)]
def turn2 (cl : Cl) (fl : Nat → List Bool) (elt t cond t1 it1 cond1 : E) (own own1 : List Nat) (x : D) (acc : List D) : M (List D) := fun s => ((asg cl fl t (.d x)).bind fun _ => (hd cl fl cond).bind fun z => (truth z).bind fun k =>
  if k then (its cl fl it1).bind fun ys => compL (turn cl fl elt t1 cond1 own1) ys acc else ret acc) { s with e := wipeE s.e own }
theorem i_comp2 {elt t it cond t1 it1 cond1 : E} {own own1 : List Nat} {Q : VK} (nd : own.Nodup) (hb : ∀ i ∈ own, i < σ.length) (ht : ∀ k ∈ tgv t, k ∈ own) (nd1 : own1.Nodup) (sub : ∀ i ∈ own1, i ∈ own) (ht1 : ∀ k ∈ tgv t1, k ∈ own1) (h : rdE cs cl fl K (.comp2 elt t it cond t1 it1 cond1 own own1) σ H Q) :
    tLc2 (rdI cs cl fl K it) (rdG cs cl fl K t) (rdT cs cl fl K cond) (rdI cs cl fl K it1) (rdG cs cl fl K t1) (rdT cs cl fl K cond1) (rdE cs cl fl K elt) own own1 σ H Q := by
  obtain ⟨Z, ρ, st, tm, I, F⟩ := h
  unfold Fit hd at F
  refine ⟨Z, ρ, st, tm, I, (W_bind.mp F).mono fun xs s1 F Z1 ρ1 H1 J l1 p1 I1 ok D hD => ?_⟩
  have F : W (comp2L (turn2 cl fl elt t cond t1 it1 cond1 own own1) xs [] s1) fun os s' => ∀ Z' ρ' v H', Le Z Z' → Px ρ ρ' → In K cs Z' ρ' H' ⟨backE s1.e (wipeE s'.e own) own, s'.h⟩ σ ((.lst os, some v) :: tm) → Q v H' := by
    have F : W (match comp2L (turn2 cl fl elt t cond t1 it1 cond1 own own1) xs [] s1 with
        | .ok os s' => Res.ok (Hd.tmp (.lst os)) { s' with e := backE s1.e (wipeE s'.e own) own }
        | .exc c v s' => .exc c v s'
        | .bad => .bad) _ := F
    revert F
    cases comp2L (turn2 cl fl elt t cond t1 it1 cond1 own own1) xs [] s1 with
    | bad => exact fun F => F
    | exc c v s => exact fun F => F
    | ok os s' => exact fun F Z' ρ' v H' l p I => F Z' ρ' v H' l p I trivial
  generalize hfin : (fun (os : List Lw.D) (s' : St) => ∀ Z' ρ' v H', Le Z Z' → Px ρ ρ' → In K cs Z' ρ' H' ⟨backE s1.e (wipeE s'.e own) own, s'.h⟩ σ ((.lst os, some v) :: tm) → Q v H') = Fin at F
  have hb1 : ∀ i ∈ own, i < s1.e.length := fun i hi => by rw [I1.len]; exact hb i hi
  obtain ⟨sv, f1, f2⟩ := In.wipe cs K σ s1.e I1.len own nd hb1
  -- what stands ahead of an outer turn
  let Out (i : Nat) (H' : Hp) : Prop := ∃ Z2 ρ2 s2 acc, Le Z1 Z2 ∧ Px ρ1 ρ2 ∧ s2.e.length = s1.e.length ∧ In K cs Z2 ρ2 H' ⟨wipeE s2.e own, s2.h⟩ (L2.wipe σ own) ((.lst acc, some (.ref D)) :: (sv ++ tm)) ∧ W (comp2L (turn2 cl fl elt t cond t1 it1 cond1 own own1) (xs.drop i) acc s2) Fin
  refine ⟨fun i m H' => m = xs.length - i ∧ i ≤ xs.length ∧ Out i H', ⟨xs.length, by simp, Nat.zero_le _, Z1, ρ1, s1, [], Le.refl _, Px.refl _, rfl, ?_, F⟩, ?_⟩
  · have J1 := f1 Z1 ρ1 H1 s1.h tm I1
    exact .back J1.len (J1.rel.newL hD .nil)
  · rintro i m H2 ⟨rfl, hi, Z2, ρ2, s2, acc, l2, p2, hl2, I2, F2⟩
    by_cases hlt : i < xs.length
    · right
      refine ⟨ok.go i H2 (l2.trans I2.rel.le) hlt, Out (i + 1), fun H' N => ⟨_, Nat.sub_lt_sub_left hlt (Nat.lt_succ_self i), rfl, hlt, N⟩, fun x H3 hy => ?_⟩
      obtain ⟨d, hd, ed⟩ := drop_at hlt
      rw [ed] at F2
      unfold comp2L at F2
      have F2 := W_bind.mp F2
      obtain ⟨Z3, l3, I3⟩ := item_in ok l2 p2 I2 hy hd
      refine ⟨Z3, ρ2, _, _, .d d, I3, ?_⟩
      unfold turn2 at F2
      refine (W_bind.mp F2).mono fun _ s3 F3 Z4 ρ4 σ4 H4 l4 p4 m4 I4 => ?_
      have m5 := wipe_sm (m4.sub ht)
      refine ⟨m5, Z4, ρ4, s3, _, I4, W_bind.mpr ((W_bind.mp F3).mono fun z s4 F4 => (W_bind.mp F4).mono fun b s5 F5 Z5 ρ5 H5 l5 p5 I5 => ?_)⟩
      have len4 : σ4.length = σ.length := by rw [m4.1, wipe_length]
      have len5 : s5.e.length = s1.e.length := by rw [I5.len, len4, I1.len]
      cases b with
      | false =>
        simp only [Bool.false_eq_true, if_false] at F5 ⊢
        refine ⟨Z5, ρ5, s5, acc, l2.trans (l3.trans (l4.trans l5)), p2.trans (p4.trans p5), len5, ?_, F5⟩
        have := I5.wipes nd (fun i hi => by rw [len5]; exact hb1 i hi)
        rw [m5] at this
        exact this
      | true =>
        simp only [if_true] at F5 ⊢
        refine ⟨Z5, ρ5, s5, _, I5, (W_bind.mp F5).mono fun ys s6 F6 Z6 ρ6 H6 J6 l6 p6 I6 ok6 => ?_⟩
        have len6 : s6.e.length = s1.e.length := by rw [I6.len, len4, I1.len]
        have hb6 : ∀ i ∈ own1, i < s6.e.length := fun i hi => by rw [len6]; exact hb1 i (sub i hi)
        have l16 : Le Z1 Z6 := l2.trans (l3.trans (l4.trans (l5.trans l6)))
        have p16 : Px ρ1 ρ6 := p2.trans (p4.trans (p5.trans p6))
        refine ⟨fun j k H' => k = ys.length - j ∧ j ≤ ys.length ∧ ∃ Z7 ρ7 s7 acc, Le Z6 Z7 ∧ Px ρ6 ρ7 ∧ s7.e.length = s6.e.length ∧ In K cs Z7 ρ7 H' ⟨wipeE s7.e own1, s7.h⟩ (L2.wipe σ4 own1) ((.lst acc, some (.ref D)) :: (sv ++ tm)) ∧
          W (compL (turn cl fl elt t1 cond1 own1) (ys.drop j) acc s7) fun acc' s' => W (comp2L (turn2 cl fl elt t cond t1 it1 cond1 own own1) (xs.drop (i + 1)) acc' s') Fin,
          ⟨ys.length, by simp, Nat.zero_le _, Z6, ρ6, s6, acc, Le.refl _, Px.refl _, rfl, I6.wipes nd1 hb6, F6⟩, ?_⟩
        rintro j k H7 ⟨rfl, hj, Z7, ρ7, s7, acc7, l7, p7, hl7, I7, F7⟩
        by_cases hjt : j < ys.length
        · right
          refine ⟨ok6.go j H7 (l7.trans I7.rel.le) hjt, _, fun H' N => ⟨_, Nat.sub_lt_sub_left hjt (Nat.lt_succ_self j), N⟩, fun x8 H8 hy8 => ?_⟩
          obtain ⟨d8, hd8, ed8⟩ := drop_at hjt
          rw [ed8] at F7
          unfold compL at F7
          have F7 := W_bind.mp F7
          obtain ⟨Z8, l8, I8⟩ := item_in ok6 l7 p7 I7 hy8 hd8
          refine ⟨Z8, ρ7, _, _, .d d8, I8, ?_⟩
          unfold turn at F7
          refine (W_bind.mp F7).mono fun _ s9 F9 Z9 ρ9 σ9 H9 l9 p9 m9 I9 => ?_
          have m10 := wipe_sm (m9.sub ht1)
          refine ⟨m10, Z9, ρ9, s9, _, I9, W_bind.mpr ((W_bind.mp F9).mono fun z s10 F10 => (W_bind.mp F10).mono fun b s11 F11 Z11 ρ11 H11 l11 p11 I11 => ?_)⟩
          have len9 : σ9.length = s1.e.length := by rw [m9.1, wipe_length, len4, I1.len]
          have len11 : s11.e.length = s6.e.length := by rw [I11.len, len9, len6]
          cases b with
          | false =>
            simp only [Bool.false_eq_true, if_false] at F11 ⊢
            refine ⟨trivial, hjt, Z11, ρ11, s11, acc7, l7.trans (l8.trans (l9.trans l11)), p7.trans (p9.trans p11), len11, ?_, F11⟩
            have := I11.wipes nd1 (fun i hi => by rw [len11]; exact hb6 i hi)
            rw [m10] at this
            exact this
          | true =>
            simp only [if_true] at F11 ⊢
            refine ⟨Z11, ρ11, s11, _, I11, (W_bind.mp F11).mono fun y s12 F12 Z12 ρ12 v H12 l12 p12 I12 hy12 => ?_⟩
            obtain ⟨Z13, o, s13, l13, I13, F13⟩ := take_ok (W_bind.mp F12) I12 hy12
            obtain ⟨Z14, ρ14, dd, s14, l14, p14, I14, r14, F14⟩ := stow_ok (W_bind.mp F13) I13
            have F14 : W (if decide (acc7.length < sizeLine) = true then compL (turn cl fl elt t1 cond1 own1) (ys.drop (j + 1)) (acc7 ++ [dd]) s14 else .bad) _ := F14
            have len14 : s14.e.length = s6.e.length := by rw [I14.len, len9, len6]
            split at F14
            · rename_i hz
              obtain ⟨a, vs, ea, ha, r1, R⟩ := I14.front.openL
              cases ea
              refine ⟨vs, ha, by rw [← r1.length]; exact of_decide_eq_true hz, trivial, hjt, Z14, ρ14, s14, acc7 ++ [dd], l7.trans (l8.trans (l9.trans (l11.trans (l12.trans (l13.trans l14))))), p7.trans (p9.trans (p11.trans (p12.trans p14))), len14, ?_, F14⟩
              have R2 : Rel K cs [D] Z14 ρ14 (upd H12 D (.lst (vs ++ [v]))) s14.h (s14.e.zip σ9 ++ (sv ++ tm)) := R.set (List.mem_singleton_self _)
              have I15 : In K cs Z14 ρ14 (upd H12 D (.lst (vs ++ [v]))) s14 σ9 ((.lst (acc7 ++ [dd]), some (.ref D)) :: (sv ++ tm)) := .back I14.len (R2.closeL upd_same (r1.append (.cons r14 .nil)))
              have := I15.wipes nd1 (fun i hi => by rw [len14]; exact hb6 i hi)
              rw [m10] at this
              exact this
            · exact F14.elim
        · left
          have ej : j = ys.length := by omega
          subst ej
          refine ⟨ok6.stop _ H7 (l7.trans I7.rel.le) (Nat.le_refl _), Z7, ρ7, s7, acc7, l16.trans l7, p16.trans p7, by rw [hl7, len6], ?_, ?_⟩
          · have := I7.wipes nd (fun i hi => by show i < (wipeE s7.e own1).length; rw [wipeE_len, hl7, len6]; exact hb1 i hi)
            have := this
            rw [wipe_sub sub, m5] at this
            have e : wipeE (wipeE s7.e own1) own = wipeE s7.e own := wipeE_sub sub
            rw [← e]
            exact this
          · rw [List.drop_length] at F7
            unfold compL at F7
            exact W_ret.mp F7
    · left
      have ei : i = xs.length := by omega
      subst ei
      refine ⟨ok.stop _ H2 (l2.trans I2.rel.le) (Nat.le_refl _), ?_⟩
      rw [List.drop_length] at F2
      unfold comp2L at F2
      have F2 := W_ret.mp F2
      rw [← hfin] at F2
      refine F2 Z2 ρ2 _ H2 (l1.trans l2) (p1.trans p2) (f2 Z2 ρ2 H2 s2.h s2.e _ hl2 ?_)
      exact I2.perm List.perm_middle.symm
end
end Lw

set_option Elab.async false
set_option linter.all false
set_option maxRecDepth 100000
set_option maxHeartbeats 8000000
/-! Lw, part 10: expressions as they stand in the text -/
namespace Lw
open PySem L2 PySem.Spec PyProof.Rows
section
variable {g : Gm} {cs : Nat → Option Addr} {cl : Cl} {fl : Nat → List Bool} {N : List Str} {fp : Str → Bool} {sc : Scope} {X : Cx}
theorem XOk.blk (O : XOk g cs cl fl N fp sc X) (s : Shared) (H : Hp) (scope : Scope) (C : Addr) (clo : List (Str × Addr)) (fp' : List Addr) :
    XOk g cs cl fl N (fun n => scope.names.lookup n == some .cell) (relS scope sc) (X.blk s H scope (compEnvC scope clo C X.env) fp') where
  hN := O.hN
  nd := O.nd
  good := O.good
  sc := by
    show relS scope X.env.scope = relS scope sc
    rw [O.sc]
  calm := O.calm
  gd := O.gd
  un := O.un
  bn := O.bn
  gcs := O.gcs
  fp := fun x h => h
  fns := O.fns
  dfs := O.dfs
  mts := O.mts
  news := O.news
  flds := O.flds
theorem bi_call (O : XOk g cs cl fl N fp sc X) (b : Bi) : (∃ id, bootBuiltins (Str.ofString (biName b)) = some (.builtin id) ∧ CallR X (.builtin id) (rBlt X.K cs (bltop b))) ∨ (∃ T, bootBuiltins (Str.ofString (biName b)) = some (.type T) ∧ CallR X (.type T) (rBlt X.K cs (bltop b))) := by
  cases b with
  | len => exact .inl ⟨"len", by decide +kernel, call_len2⟩
  | lst => exact .inr ⟨"list", by decide +kernel, call_lst O.calm⟩
  | tup => exact .inr ⟨"tuple", by decide +kernel, call_tup⟩
  | sorted => exact .inl ⟨"sorted", by decide +kernel, call_sorted2⟩
  | rep => exact .inl ⟨"repr", by decide +kernel, call_rep O.gd (by have := O.un; omega)⟩
  | isi => exact .inl ⟨"isinstance", by decide +kernel, call_isi2⟩
  | all => exact .inl ⟨"all", by decide +kernel, call_all2 O.calm⟩
  | any => exact .inl ⟨"any", by decide +kernel, call_any2 O.calm⟩
  | sum => exact .inl ⟨"sum", by decide +kernel, call_sum2 O.calm⟩
  | min2 => exact .inl ⟨"min", by decide +kernel, call_min O.calm⟩
  | max2 => exact .inl ⟨"max", by decide +kernel, call_max O.calm⟩
  | abs => exact .inl ⟨"abs", by decide +kernel, call_abs1⟩
  | stri => exact .inr ⟨"str", by decide +kernel, call_stri⟩
  | sumL => exact .inl ⟨"sum", by decide +kernel, call_sumL2 O.calm⟩
theorem bi_known (b : Bi) : biName b ∈ allNames := by cases b <;> decide
theorem bi_good (b : Bi) : goodN (Str.ofString (biName b)) = true := by cases b <;> decide +kernel
theorem ty_boot {n : String} (h : tyNames.contains n = true) : bootBuiltins (Str.ofString n) = some (.type n) ∧ n ∈ allNames ∧ goodN (Str.ofString n) = true := by
  have h : n ∈ tyNames := List.contains_iff_mem.mp h
  simp only [tyNames, List.mem_cons, List.not_mem_nil, or_false] at h
  rcases h with rfl | rfl | rfl | rfl | rfl | rfl <;> exact ⟨by decide +kernel, by decide, by decide +kernel⟩
theorem opt_self {r : M Hd} {st : St} {Q : Hd → St → Prop} (h : W (r st) Q) : W (r st) Q := h
theorem i_con {d : D} {v : V} {σ : L2.St} {H : Hp} {Q : VK} (hv : ∀ Z ρ, RD X.K Z ρ d v) (h : rdE cs cl fl X.K (.con d) σ H Q) : tC v σ H Q := by
  obtain ⟨Z, ρ, st, tm, I, F⟩ := h
  unfold Fit hd at F
  exact F Z ρ v H (Le.refl _) (Px.refl _) (In.dat I (hv Z ρ)) trivial
theorem i_one {a : E} {σ : L2.St} {H : Hp} {Q : VK} (h : rdE cs cl fl X.K (.one a) σ H Q) : rdE cs cl fl X.K a σ H Q := by
  obtain ⟨Z, ρ, st, tm, I, F⟩ := h
  unfold Fit hd at F
  exact ⟨Z, ρ, st, tm, I, F⟩
theorem t_one {a : E} {σ : L2.St} {H : Hp} {Q : Bool → Hp → Prop} (h : rdT cs cl fl X.K (.one a) σ H Q) : rdT cs cl fl X.K a σ H Q := by
  obtain ⟨Z, ρ, st, tm, I, F⟩ := h
  have F := W_bind.mp F
  unfold hd at F
  exact ⟨Z, ρ, st, tm, I, W_bind.mpr F⟩
theorem pt_plain {x : Expr} {e : E} (h : PE X x (rdE cs cl fl X.K e)) (he : ∀ whole, isTrue x X.env whole = (do let v ← whole; standAt x.pos; holding [v] (truthy v))) : PT X x (rdT cs cl fl X.K e) :=
  Lw.PT.imp (pt_val h he) fun σ H Q q => i_test q
theorem pt_ifE {c a b : Expr} {pos : Pos} {tc ta tb : TT} (hc : PT X c tc) (ha : PT X a ta) (hb : PT X b tb) : PT X (.IfExp c a b pos) (fun σ H Q => tc σ H fun k H1 => if k = true then ta σ H1 Q else tb σ H1 Q) := by
  refine ⟨fun pins s σ H Q I h => ?_⟩
  show wpAny _ _ (isTrue c X.env (eval c X.env) >>= fun k => if k = true then isTrue a X.env (eval a X.env) else isTrue b X.env (eval b X.env)) _ _ s
  refine wpAny_bind (thn (hc.run pins s σ H _ I h) fun k s1 ⟨H1, I1, q⟩ => ?_)
  cases k with
  | true => exact ha.run pins s1 σ H1 Q I1 q
  | false => exact hb.run pins s1 σ H1 Q I1 q
theorem pw_imp {e : Expr} {t t' : TT} (h : PW X e t) (k : ∀ σ H Q, t' σ H Q → t σ H Q) : PW X e t' := ⟨fun w pins s σ H Q I q => h.run w pins s σ H Q I (k _ _ _ q)⟩

/-- all that is shown of an expression -/
structure Sd (g : Gm) (cs : Nat → Option Addr) (cl : Cl) (fl : Nat → List Bool) (e : E) (N : List Str) (fp : Str → Bool) (sc : Scope) (X : Cx) : Prop where
  ev : ∀ x, mt g N fp sc e x = true → PE X x (rdE cs cl fl X.K e) ∧ PT X x (rdT cs cl fl X.K e)
  bo : ∀ op vs p, mt g N fp sc e (.BoolOp op vs p) = true → PW X (.BoolOp op vs p) (rdT cs cl fl X.K e)
  ls : ∀ xs, mtL g N fp sc e xs = true → PA X xs (rdV cs cl fl X.K e) ∧ PA X xs (rdH cs cl fl X.K e) ∧ ∀ ps, PA X xs (rdO cs X.K (avs cl fl ps e))
  pt : ∀ o, mtP g N fp sc e o = true → PO X o (rdP cs cl fl X.K e)
  it : ∀ tg x, mtI g N fp sc tg e x = true → PI X tg x (rdI cs cl fl X.K e)
  tg : ∀ x, mtG g N fp sc e x = true → PG X x (rdG cs cl fl X.K e)
  ts : ∀ xs, mtGs g N fp sc e xs = true → PGs X xs (rdGs cs cl fl X.K e)
/-- for an expression proper -/
theorem Sd.of {e : E} (ev : ∀ x, mt g N fp sc e x = true → PE X x (rdE cs cl fl X.K e) ∧ PT X x (rdT cs cl fl X.K e))
    (bo : ∀ op vs p, mt g N fp sc e (.BoolOp op vs p) = true → PW X (.BoolOp op vs p) (rdT cs cl fl X.K e))
    (h1 : ∀ xs, mtL g N fp sc e xs = false) (h2 : ∀ o, mtP g N fp sc e o = false) (h3 : ∀ tg x, mtI g N fp sc tg e x = false) (h4 : ∀ x, mtG g N fp sc e x = false) (h5 : ∀ xs, mtGs g N fp sc e xs = false) : Sd g cs cl fl e N fp sc X where
  ev := ev
  bo := bo
  ls := fun xs h => by rw [h1] at h; cases h
  pt := fun o h => by rw [h2] at h; cases h
  it := fun tg x h => by rw [h3] at h; cases h
  tg := fun x h => by rw [h4] at h; cases h
  ts := fun x h => by rw [h5] at h; cases h
theorem PG.imp {e : Expr} {t t' : TG} (h : PG X e t) (k : ∀ v σ H Q, t' v σ H Q → t v σ H Q) : PG X e t' := ⟨fun pins s σ H v u Q I r q => h.run pins s σ H v u Q I r (k _ _ _ _ q)⟩
theorem PGs.imp {e : List Expr} {t t' : TGs} (h : PGs X e t) (k : ∀ v σ H Q, t' v σ H Q → t v σ H Q) : PGs X e t' := ⟨fun pins s σ H v u Q I r q => h.run pins s σ H v u Q I r (k _ _ _ _ q)⟩
theorem PO.imp {e : Option Expr} {t t' : TO} (h : PO X e t) (k : ∀ σ H Q, t' σ H Q → t σ H Q) : PO X e t' := ⟨fun pins s σ H Q I q => h.run pins s σ H Q I (k _ _ _ q)⟩
theorem PI.imp {tg e : Expr} {t t' : TI} (h : PI X tg e t) (k : ∀ σ H Q, t' σ H Q → t σ H Q) : PI X tg e t' := ⟨fun pins s σ H Q I q => h.run pins s σ H Q I (k _ _ _ q)⟩
theorem PTs.imp {e : List Expr} {t t' : TT} (h : PTs X e t) (k : ∀ σ H Q, t' σ H Q → t σ H Q) : PTs X e t' := ⟨fun pins s σ H Q I q => h.run pins s σ H Q I (k _ _ _ q)⟩
theorem i_sl2 {a lo hi : E} {σ : L2.St} {H : Hp} {Q : VK} (h : rdE cs cl fl X.K (.sl a lo hi) σ H Q) :
    tSl (fun x l u H Q => l = l ∧ u = u ∧ ∃ Z ρ h ts a r, Rel X.K cs [] Z ρ H h ts ∧ View X.K cs Z ρ H a x ∧ getCut a l u = some r ∧ Ans X.K cs Z ρ h ts r Q) (rdE cs cl fl X.K a) (rdP cs cl fl X.K lo) (rdP cs cl fl X.K hi) σ H Q := by
  have := i_sl h
  unfold tSl at this ⊢
  simpa using this
theorem sl_any : SlR X (fun x l u H Q => l = l ∧ u = u ∧ ∃ Z ρ h ts a r, Rel X.K cs [] Z ρ H h ts ∧ View X.K cs Z ρ H a x ∧ getCut a l u = some r ∧ Ans X.K cs Z ρ h ts r Q) := fun pins s σ H x v vl vu lo hi sl Q I rx hs pl pu h =>
  sl_all lo hi pins s σ H x v vl vu lo hi sl Q I rx hs pl pu h
theorem t_true {σ : L2.St} {H : Hp} {Q : Bool → Hp → Prop} (h : rdT cs cl fl X.K (.con (.bl true)) σ H Q) : tYes σ H Q := by
  obtain ⟨Z, ρ, st, tm, I, F⟩ := h
  have F := W_bind.mp F
  unfold hd at F
  exact F Z ρ H (Le.refl _) (Px.refl _) I
theorem mtL_nil {es : E} (h : mtL g N fp sc es [] = true) : es = .nil := by cases es <;> first | rfl | (simp [mtL] at h)
theorem mtL_one {es : E} {x : Expr} (h : mtL g N fp sc es [x] = true) : ∃ e, es = .cons e .nil := by
  cases es <;> first | (simp [mtL] at h; done) | skip
  rename_i e es
  simp only [mtL, Bool.and_eq_true] at h
  exact ⟨e, by rw [mtL_nil h.2]⟩
end
end Lw

set_option Elab.async false
set_option linter.all false
set_option maxRecDepth 100000
set_option maxHeartbeats 8000000
/-! Lw: x[::-1] of a text, of a list -/
namespace Lw
open PySem L2 PySem.Spec PyProof.Rows
theorem pg_tupA {X : Cx} {es : List Expr} {k : Nat} {t : TGs} {n : Nat} {pos : Pos} (hc : X.calm = true) (h : PGs X es t)
    (hn : (assignEach es X.env).length = n := by rfl) (hst : (assignEach es X.env).findIdx? (·.1) = none := by rfl) : PG X (.Tuple es k pos) (gTupA X.K n t) := by
  refine ⟨fun pins s σ H v u Q I r hw => ?_⟩
  obtain ⟨a, xs, e1, hq, hl, hw⟩ := hw
  rcases hq with hq | hq
  · exact (pg_tup hc h hn hst).run pins s σ H v u Q I r ⟨a, xs, e1, hq, hl, hw⟩
  · exact (pg_unl hc h hn hst).run pins s σ H v u Q I r ⟨a, xs, e1, hq, hl, hw⟩
/-- a thing cut by steps: what stands at every k-th place -/
def StR (X : Cx) (c : Expr) (k : Int) (r : V → Hp → VK → Prop) : Prop := ∀ (pins : List (Addr × Obj)) (σ : L2.St) (H : Hp) (s : Shared) (e : Expr) (p : Pos) (x : V) (v vl vu vs : Value) (Q : VK), L2.Inv X pins σ H s → RelV x v → IsPart vl none → IsPart vu none → IsPart vs (some k) →
  s.heap.IsSliceOf (s.heap.objs.size - 1) vl vu vs → r x H Q → wpAny (model X.prog X.w) X.A (subscriptTail e (.Slice none none (some c) p) v (.ref (s.heap.objs.size - 1))) (EP X pins σ Q) X.xe s
theorem pe_step {X : Cx} {e c : Expr} {te : TE} {k : Int} {r : V → Hp → VK → Prop} {p pos : Pos} (he : PE X e te) (hk : PO X (some c) fun σ H R => R (some k) H) (hr : StR X c k r) : PE X (.Subscript e (.Slice none none (some c) p) pos) fun σ H Q => te σ H fun x H1 => r x H1 Q := by
  refine ⟨fun pins s0 σ H0 Q I0 h0 => Subscript_ (thn (he.run pins s0 σ H0 _ I0 h0) fun v s1 ⟨x, H1, I1, rv, q⟩ => wpAny_Slice ?_)⟩
  have part : ∀ {s : Shared} {H : Hp}, L2.Inv X pins σ H s → wpAny (model X.prog X.w) X.A (evalPart none X.env) (fun u s' => L2.Inv X pins σ H s' ∧ IsPart u none) X.xe s := fun {s H} I =>
    thn (po_none.run pins s σ H (fun o H' => o = none ∧ H' = H) I ⟨rfl, rfl⟩) fun u s' ⟨o, H', I', pu, eo, eH⟩ => by rw [eH] at I'; rw [eo] at pu; exact ⟨I', pu⟩
  refine thn (part I1) fun vl s2 ⟨I2, pl⟩ => thn (part I2) fun vu s3 ⟨I3, pu⟩ => ?_
  refine thn (hk.run pins s3 σ H1 (fun o H' => o = some k ∧ H' = H1) I3 ⟨rfl, rfl⟩) fun vs s4 ⟨o, H', I4, ps, eo, eH⟩ => ?_
  rw [eH] at I4
  rw [eo] at ps
  have I5 := I4.kept (h' := s4.heap.push { cls := .type "slice", data := .fields #[vl, vu, vs] }) (t' := s4.toks) fun _ _ g => Heap.get?_push_of_some _ g
  have sz : (s4.heap.push { cls := .type "slice", data := .fields #[vl, vu, vs] }).objs.size - 1 = s4.heap.objs.size := by rw [Heap.size_push]; rfl
  have := hr pins σ H1 _ e p x v vl vu vs Q I5 rv pl pu ps (by rw [sz]; exact Heap.IsSliceOf.new _ vl vu vs) q
  rw [sz] at this
  exact this
theorem rev_pick (z : Str) : Builtin.Str.strSliceIndices none none (-1) z.length = (List.range z.length).reverse := by
  rw [← PySem.W.krv_range, ← PySem.W.krv_sliceRange]
  rfl
theorem back_adj (n : Nat) : Builtin.Slice.sliceAdjust none none (-1) (n : Int) = ((n : Int) - 1, -1) := by
  unfold Builtin.Slice.sliceAdjust
  simp
theorem back_places (n : Nat) : Builtin.Slice.slicePlaces ((n : Int) - 1) (-1) (-1) = n := by
  unfold Builtin.Slice.slicePlaces
  have h1 : ¬ ((-1 : Int) > 0) := by omega
  simp only [h1, if_false, Int.neg_neg, Int.ediv_one]
  split <;> omega
theorem fm_congr {α β : Type} {f g : α → Option β} : ∀ {l : List α}, (∀ x ∈ l, f x = g x) → l.filterMap f = l.filterMap g
  | [], _ => rfl
  | a :: l, h => by rw [List.filterMap_cons, List.filterMap_cons, h a (List.mem_cons_self ..), fm_congr fun x hx => h x (List.mem_cons_of_mem _ hx)]
theorem back_pick (l : List Value) : (List.range l.length).filterMap (fun (m : Nat) => l.toArray[((l.length : Int) - 1 + (m : Int) * (-1)).toNat]?) = l.reverse := by
  have all : (List.range l.length).filterMap (fun (m : Nat) => l.toArray[((l.length : Int) - 1 + (m : Int) * (-1)).toNat]?) = (List.range l.length).filterMap (fun m => l.reverse[m]?) := by
    refine fm_congr fun m hm => ?_
    have h := List.mem_range.mp hm
    rw [show ((l.length : Int) - 1 + (m : Int) * (-1)).toNat = l.length - 1 - m by omega, List.getElem?_toArray, List.getElem?_reverse h]
  rw [all, ← List.length_reverse (as := l)]
  have := PySem.W.krv_all l.reverse.toArray
  simp only [List.size_toArray, List.getElem?_toArray] at this
  rw [this]
section
variable {prog : Program} {w : World} {A : Around} {E : Value → Shared → Prop} {s : Shared}
theorem back_tup {a b : Addr} {l : List Value} {x y z : Value} {Q : Value → Shared → Prop} (ha : IsTup s.heap a l.toArray) (hb : s.heap.IsSliceOf b x y z) (px : IsPart x none) (py : IsPart y none) (pz : IsPart z (some (-1)))
    (hl : l.length ≤ sizeLine) (q : Q (.ref s.heap.objs.size) { s with heap := s.heap.push { cls := .type "tuple", data := .seq l.reverse.toArray } }) : wpAny (model prog w) A (getItem (.ref a) (.ref b)) Q E s := by
  obtain ⟨ob, g1, g2, g3⟩ := id hb
  have tb : s.TypeIs (.ref b) "slice" := ⟨ob, g1, g2⟩
  unfold getItem
  try with_reducible refine wpAny_holding ?_
  first | refine wpAny_bind (wpAny_pure ?_) | skip
  refine wpAny_bind (wpAny_sequenceKey ha.typeIs (by decide) ?_)
  refine wpAny_bind (wpAny_callSpecial?_slot (name := Str.ofString "__getitem__") ha.typeIs PyProof.Rows.slot_tuple_getitem
    (wpAny_call_entry PyProof.Rows.slot_tuple_getitem ha.typeIs entry_tuple_getitem ?_ (args_tuple_getitem _ _)))
  show wpAny _ _ (Builtin.Tuple.tupleItemsOf (.ref a) >>= _) _ _ s
  refine wpAny_bind (tupleItemsOf_ ha ?_)
  refine wpAny_bind (wpAny_typeOf tb ?_)
  rw [if_pos (by decide)]
  have sl : ∀ {A : Around} {E : Value → Shared → Prop} {R : Int × Int × Nat → Shared → Prop}, R ((l.length : Int) - 1, -1, l.length) s → wpAny (model prog w) A (Builtin.Slice.sliceApplied (.ref b) (pure (l.length : Int))) R E s := by
    intro A E R r
    unfold Builtin.Slice.sliceApplied Builtin.Slice.sliceFields
    refine wpAny_bind (wpAny_bind (wpAny_field g1 g3 (x := x) rfl (wpAny_bind (wpAny_field g1 g3 (x := y) rfl (wpAny_bind (wpAny_field g1 g3 (x := z) rfl (wpAny_pure ?_)))))))
    refine wpAny_bind (HT.slicePart_ pz ?_)
    show wpAny _ _ (if ((-1 : Int) == 0) = true then _ else _) _ _ s
    rw [if_neg (by decide)]
    refine wpAny_bind (HT.slicePart_ px (wpAny_bind (HT.slicePart_ py (wpAny_bind (wpAny_pure ?_)))))
    show wpAny _ _ (match Builtin.Slice.sliceAdjust none none (-1) (l.length : Int) with | (lo, hi) => pure (lo, (-1 : Int), Builtin.Slice.slicePlaces lo hi (-1))) _ _ s
    rw [back_adj]
    show wpAny _ _ (pure ((l.length : Int) - 1, (-1 : Int), Builtin.Slice.slicePlaces ((l.length : Int) - 1) (-1) (-1))) _ _ s
    rw [back_places]
    exact wpAny_pure r
  refine wpAny_bind (sl ?_)
  show wpAny _ _ (if (((l.length : Int) - 1 == 0 && (-1 : Int) == 1 && l.length == l.toArray.size) = true) then _ else _) _ _ s
  rw [if_neg (by simp), back_pick]
  have fit : sizeOk (.seq l.reverse.toArray) := by
    show l.reverse.toArray.size ≤ sizeLine
    simp
    exact hl
  first
    | exact wpAny_bind (m := Builtin.Tuple.tupleExact _) (wpAny_newObj_type (wpAny_pure ⟨_, rfl, wpAny_pure q⟩) fit)
    | exact wpAny_bind (m := Builtin.Tuple.tupleExact _) (wpAny_newObj_type (wpAny_bind (wpAny_pure (wpAny_pure ⟨_, rfl, wpAny_pure q⟩))) fit)
    | exact wpAny_bind (wpAny_bind (m := Builtin.Tuple.tupleExact _) (wpAny_newObj_type (wpAny_pure (wpAny_pure ⟨_, rfl, wpAny_pure q⟩)) fit))
    | exact wpAny_bind (wpAny_bind (m := Builtin.Tuple.tupleExact _) (wpAny_newObj_type (wpAny_pure ⟨_, rfl, wpAny_pure q⟩) fit))
end
def rRev (K : Fg) : V → Hp → VK → Prop := fun x H Q => (∃ z, x = .str z ∧ z.length ≤ sizeLine ∧ Q (.str (revS z)) H) ∨ ∃ a xs, x = .ref a ∧ (SqL K H a xs ∧ (∀ p, H p = none → Q (.ref p) (upd H p (.lst xs.reverse))) ∨ SqT K H a xs ∧ (∀ p, H p = none → Q (.ref p) (upd H p (.tup xs.reverse))))
def tRevA (K : Fg) (te : TE) : TE := fun σ H Q => te σ H fun x H1 => rRev K x H1 Q
/-- a list of some of a list's items, in any order -/
theorem st_list {X : Cx} {c : Expr} {k : Int} {f : List V → List V} {g : Array Value → List Value} (hk : k ≠ 0) (hsub : ∀ p o i, subscripted (.Slice none none (some c) p) false o i = operate [o, i] (getItem o i))
    (hg : ∀ its : Array Value, slicePick its none none (some k) = (g its).toArray) (hf : ∀ xs (its : List Value), Vals xs its → Vals (f xs) (g its.toArray) ∧ (f xs).length ≤ xs.length) :
    StR X c k fun x H Q => ∃ a xs, x = .ref a ∧ SqL X.K H a xs ∧ ∀ p, H p = none → Q (.ref p) (upd H p (.lst (f xs))) := by
  rintro pins σ H s e p x v vl vu vs Q I rv pl pu ps hs ⟨a, xs, rfl, hx, q⟩
  cases rv
  obtain ⟨its, r, ht, hz⟩ := I.list hx
  obtain ⟨r2, hl⟩ := hf xs its r
  have hn := r.length
  refine tail_any ht.isList.typeIs PySem.slot_list_getitem.lookup (wpAny_getItem_list_slice ht.isList hs pl pu ps (fun e => hk (Option.some.inj e)) ?_ (by rw [List.size_toArray]; omega)) (hsub p _ _)
  rw [hg]
  exact ⟨.ref _, _, I.laid (t' := s.toks) (fun _ _ g => Heap.get?_push_of_some _ g) (Nat.le_refl _) (o := .lst (f xs)) ⟨Nat.le_trans hl hz, _, 0, r2, Heap.get?_push_size _ rfl⟩, rfl, q _ (I.hok.fresh (Nat.le_refl _))⟩
theorem st_rev {X : Cx} {c : Expr} (hsub : ∀ p o i, subscripted (.Slice none none (some c) p) false o i = operate [o, i] (getItem o i)) : StR X c (-1) (rRev X.K) := by
  rintro pins σ H s e p x v vl vu vs Q I rv pl pu ps hs (⟨z, rfl, hz, q⟩ | ⟨a, xs, rfl, ⟨hx, q⟩ | ⟨hx, q⟩⟩)
  · obtain ⟨t, rfl⟩ := rv
    obtain ⟨l, rfl, el⟩ := IsPart.raw pl
    obtain ⟨u, rfl, eu⟩ := IsPart.raw pu
    obtain ⟨st, rfl, est⟩ := IsPart.raw ps
    refine tail_any (typeIs_str _ _ _) F.slot_str_getitem.lookup (wpAny_getItem_str_slice (l := l) (u := u) (st := st) hs (by rw [est]; rfl) ?_) (hsub p _ _)
    have made : sliceMade z t l u st = .str (revS z) := by
      unfold sliceMade slicePicked
      rw [el, eu, est]
      have e : Builtin.Str.strSliceIndices none none ((some (-1 : Int)).getD 1) z.length = (List.range z.length).reverse := rev_pick z
      rw [e, List.filterMap_reverse, show (List.range z.length).filterMap (fun x => z.cps[x]?) = z.cps.toList from PySem.W.krv_all z.cps, if_neg (by simp)]
      rfl
    rw [made]
    have : (revS z).length = z.length := by simp [revS, Str.length]
    exact ⟨by rw [this]; exact hz, .str (revS z), H, I.tok _, ⟨_, rfl⟩, q⟩
  · exact st_list (by decide) hsub (fun its => PySem.W.krv_pick its) (fun xs its r => ⟨r.reverse, by rw [List.length_reverse]; exact Nat.le_refl _⟩) pins σ H s e p _ v vl vu vs Q I rv pl pu ps hs ⟨a, xs, rfl, hx, q⟩
  · cases rv
    obtain ⟨its, r, ht, hz⟩ := I.tuple hx
    have hn := r.length
    refine tail_any ht.typeIs PyProof.Rows.slot_tuple_getitem.lookup (back_tup ht hs pl pu ps (by omega) ?_) (hsub p _ _)
    exact ⟨.ref _, _, I.laid (t' := s.toks) (fun _ _ g => Heap.get?_push_of_some _ g) (Nat.le_refl _) (o := .tup xs.reverse) ⟨by rw [List.length_reverse]; omega, _, r.reverse, IsTup.new _ _⟩, rfl, q _ (I.hok.fresh (Nat.le_refl _))⟩
theorem pe_revA {X : Cx} {e : Expr} {te : TE} {k : Nat} {p1 p2 p3 pos : Pos} (he : PE X e te) : PE X (.Subscript e (.Slice none none (some (.UnaryOp .USub (.Constant (.int 1) k p1) p2)) p3) pos) (tRevA X.K te) :=
  pe_step (r := rRev X.K) (te := te) he ⟨fun pins s σ H R I h => (po_some (pe_un un_neg pe_int)).run pins s σ H R I ⟨1, rfl, -1, rfl, h⟩⟩ (st_rev fun p o i => by with_unfolding_all rfl)
section
variable {K : Fg} {cs : Nat → Option Addr} {cl : Cl} {fl : Nat → List Bool} {Z H : Hp} {ρ : List Addr} {σ : L2.St}
theorem RDs.reverse : ∀ {xs : List D} {vs : List V}, RDs K Z ρ xs vs → RDs K Z ρ xs.reverse vs.reverse
  | [], vs, h => by unfold RDs at h; subst h; exact .nil
  | x :: xs, vs, h => by
    unfold RDs at h
    obtain ⟨v, r, rfl, p, q⟩ := h
    rw [List.reverse_cons, List.reverse_cons]
    exact (RDs.reverse q).append (.cons p .nil)
theorem i_rev {a : E} {Q : VK} (h : rdE cs cl fl K (.rev a) σ H Q) : tRevA K (rdE cs cl fl K a) σ H Q := by
  obtain ⟨Z, ρ, st, tm, I, F⟩ := h
  unfold Fit hd at F
  refine ⟨Z, ρ, st, tm, I, (W_bind.mp F).mono fun x s1 F Z1 ρ1 v H1 l1 p1 I1 hx => ?_⟩
  obtain ⟨pa, w1, F⟩ := look_ok (W_bind.mp F) I1 hx
  obtain ⟨r, e, F⟩ := W_opt (W_bind.mp F)
  have I2 : In K cs Z1 ρ1 H1 s1 σ tm := I1.drops
  have q : Ans K cs Z1 ρ1 s1.h (s1.e.zip σ ++ tm) r Q := fun v H' Z' l' R => F Z' ρ1 v H' (l1.trans l') p1 (I2.ans R) trivial
  unfold getRev at e
  split at e
  · split at e
    · rename_i hl
      cases e
      exact .inl ⟨_, w1.rd.str, line_le hl, q.dat I2.rel (rd_str _)⟩
    · cases e
  · cases e
    obtain ⟨p, vs, e1, s1, r1⟩ := w1.rd.tup
    exact .inr ⟨p, vs, e1, .inr ⟨I2.rel.le.sqT s1, fun p hp => q.newT I2.rel r1.reverse hp⟩⟩
  · split at e
    · rename_i xs hx
      cases e
      obtain ⟨p, vs, e1, s1, r1⟩ := w1.lv I2.rel.le hx
      exact .inr ⟨p, vs, e1, .inl ⟨SqL.of s1, fun p hp => q.newL I2.rel r1.reverse hp⟩⟩
    · cases e
end
end Lw

set_option Elab.async false
set_option linter.all false
set_option maxRecDepth 100000
set_option maxHeartbeats 8000000
/-! Lw: zip of two lists, list(range(n)), xs[::k] -/
namespace Lw
open PySem L2 PySem.Spec PyProof.Rows
section
variable {K : Fg} {cs : Nat → Option Addr} {cl : Cl} {fl : Nat → List Bool} {Z H : Hp} {ρ : List Addr} {σ : L2.St}
theorem itz_ok {a b : Addr} {vs us : List V} {xs ys : List D} (h1 : Z a = some (.lst vs)) (h2 : Z b = some (.lst us)) (r1 : RDs K Z ρ xs vs) (r2 : RDs K Z ρ ys us) : ItOk K Z ρ (Itz K a b) (zipD xs ys) where
  go := fun i H l hi => by
    unfold zipD at hi
    rw [List.length_map, List.length_zip] at hi
    exact ⟨vs, us, vs[i]'(by rw [← r1.length]; omega), us[i]'(by rw [← r2.length]; omega), SqL.of (l _ _ h1), SqL.of (l _ _ h2), List.getElem?_eq_getElem _, List.getElem?_eq_getElem _⟩
  stop := fun i H l hi => by
    unfold zipD at hi
    rw [List.length_map, List.length_zip] at hi
    refine ⟨vs, us, SqL.of (l _ _ h1), SqL.of (l _ _ h2), ?_⟩
    rw [← r1.length, ← r2.length]
    omega
  yld := fun i H v H' d l y hd => by
    obtain ⟨T, x, y, ev, hT, eH, k1, k2⟩ := y
    have k1 := k1 vs (SqL.of (l _ _ h1))
    have k2 := k2 us (SqL.of (l _ _ h2))
    unfold zipD at hd
    rw [List.getElem?_map] at hd
    obtain ⟨⟨p, q⟩, e, ed⟩ := Option.map_eq_some_iff.mp hd
    obtain ⟨e1, e2⟩ := List.getElem?_zip_eq_some.mp e
    obtain ⟨u1, a1, b1⟩ := r1.at e1
    obtain ⟨u2, a2, b2⟩ := r2.at e2
    rw [a1] at k1
    rw [a2] at k2
    cases k1
    cases k2
    exact .inr ⟨T, _, _, ed.symm, ev, hT, eH, .cons b1 (.cons b2 .nil)⟩
theorem r_zip {X : Cx} {e e2 : Expr} {es : E} {p pos tpos : Pos} {elts : List Expr} {kk : Nat} (hg : Gl X "zip") (hm : X.mg "zip" = none) (ha : PA X [e, e2] (rdO cs X.K (avs cl fl [] es))) (hs : starEach [e, e2] X.env = (false, eval e X.env) :: starEach [e2] X.env) (hpl : (backTo pos (starEach [e2] X.env)).any (·.1) = false) :
    PI X (.Tuple elts kk tpos) (.Call (.Name "zip" p) [e, e2] [] pos) (rdI cs cl fl X.K (.zipE es)) := by
  refine ⟨fun pins s σ H R I h => ?_⟩
  refine (RZ.pi_zipA hg hm ha hs hpl).run pins s σ H R I ?_
  obtain ⟨Z, ρ, st, tm, J, F⟩ := h
  unfold its at F
  refine ⟨Z, ρ, st, tm, J, (W_bind.mp F).mono fun os s1 F Z1 ρ1 vs H1 l p hl I1 => ?_⟩
  split at F
  rotate_left
  · exact F.elim
  rename_i xs ys
  match vs, hl with
  | [v1, v2], _ =>
    have I1 : In X.K cs Z1 ρ1 H1 s1 σ ((.d (.lst xs), some v1) :: (.d (.lst ys), some v2) :: tm) := I1
    obtain ⟨a, vs, e1, h1, r1⟩ := I1.rd.lst
    obtain ⟨b, us, e2, h2, r2⟩ := I1.drop.rd.lst
    subst e1
    subst e2
    exact ⟨a, b, vs, us, rfl, .inl ⟨SqL.of (I1.rel.le _ _ h1), SqL.of (I1.rel.le _ _ h2), F Z1 ρ1 H1 _ l p I1.drop.drop (itz_ok h1 h2 r1 r2)⟩⟩
/-! list(range(n)) -/
theorem rds_rg {i : Int} : RDs K Z ρ (rngD 0 i.toNat) (rgV 0 i) := by
  unfold rngD rgV
  rw [Int.sub_zero]
  induction List.range i.toNat with
  | nil => exact .nil
  | cons x xs ih => exact .cons (rd_int _) ih
theorem i_rngl {a : E} {Q : VK} (h : rdE cs cl fl K (.rngl a) σ H Q) : tLstRg (tRg1 (rdE cs cl fl K a)) σ H Q := by
  obtain ⟨Z, ρ, st, tm, I, F⟩ := h
  unfold Fit hd at F
  refine ⟨Z, ρ, st, tm, I, (W_bind.mp F).mono fun x s1 F Z1 ρ1 v H1 l1 p1 I1 hx => ?_⟩
  obtain ⟨i, ei, I2, F⟩ := intOf_ok (W_bind.mp F) I1
  refine ⟨i, ei, ?_⟩
  split at F
  · rename_i hb
    simp only [Bool.and_eq_true, decide_eq_true_eq] at hb
    refine ⟨⟨by omega, by omega, by omega, by omega, by omega⟩, fun q hq => ?_⟩
    exact F Z1 ρ1 _ _ l1 p1 (I2.ans (I2.rel.newL hq rds_rg)) trivial
  · exact F.elim
/-! xs[::k] -/
def tStp (K : Fg) (k : Nat) (te : TE) : TE := fun σ H Q => te σ H fun x H1 => ∃ a xs, x = .ref a ∧ SqL K H1 a xs ∧ ∀ p, H1 p = none → Q (.ref p) (upd H1 p (.lst (pickK k xs)))
theorem pickK_len {α : Type} {k : Nat} {xs : List α} (hk : 0 < k) : (pickK k xs).length ≤ xs.length := by
  unfold pickK
  refine Nat.le_trans (List.length_filterMap_le _ _) ?_
  unfold sliceRange
  rw [List.length_map, List.length_range]
  have hk' : (k : Int) > 0 := by omega
  simp only [hk', if_true]
  split
  · rename_i h
    have : ((xs.length : Int) - 0 + k - 1) / k ≤ xs.length := by
      apply Int.ediv_le_of_le_mul hk'
      have h1 : (1 : Int) ≤ xs.length := by omega
      have : (0 : Int) ≤ ((xs.length : Int) - 1) * ((k : Int) - 1) := Int.mul_nonneg (by omega) (by omega)
      have e : ((xs.length : Int) - 1) * ((k : Int) - 1) = (xs.length : Int) * k - xs.length - k + 1 := by
        rw [Int.sub_mul, Int.mul_sub, Int.mul_sub]
        omega
      omega
    omega
  · simp
theorem paired_at {α β : Type} {F : α → β → Prop} : ∀ {xs : List α} {ys : List β}, Paired F xs ys → ∀ {i : Nat} {x : α}, xs[i]? = some x → ∃ y, ys[i]? = some y ∧ F x y
  | _, _, .nil, i, x, h => by simp at h
  | _, _, .cons f r, 0, x, h => by simp at h; subst h; exact ⟨_, rfl, f⟩
  | _, _, .cons f r, i + 1, x, h => by simpa using paired_at r (i := i) (by simpa using h)
theorem vals_pick {xs : List V} {us : List Value} (r : Vals xs us) (is : List Nat) : Vals (is.filterMap (xs[·]?)) (is.filterMap (us[·]?)) := by
  induction is with
  | nil => exact .nil
  | cons i is ih =>
    have hlen := r.length
    rw [List.filterMap_cons, List.filterMap_cons]
    by_cases hi : i < xs.length
    · have hu : i < us.length := by omega
      rw [List.getElem?_eq_getElem hi, List.getElem?_eq_getElem hu]
      refine .cons ?_ ih
      obtain ⟨u, h1, h2⟩ := paired_at r (List.getElem?_eq_getElem hi)
      rw [List.getElem?_eq_getElem hu] at h1
      cases h1
      exact h2
    · rw [List.getElem?_eq_none (by omega), List.getElem?_eq_none (by omega)]
      exact ih
theorem rds_pick {xs : List D} {vs : List V} (r : RDs K Z ρ xs vs) (is : List Nat) : RDs K Z ρ (is.filterMap (xs[·]?)) (is.filterMap (vs[·]?)) := by
  induction is with
  | nil => exact .nil
  | cons i is ih =>
    have hlen := r.length
    rw [List.filterMap_cons, List.filterMap_cons]
    by_cases hi : i < xs.length
    · have hu : i < vs.length := by omega
      rw [List.getElem?_eq_getElem hi, List.getElem?_eq_getElem hu]
      obtain ⟨u, h1, h2⟩ := r.at (List.getElem?_eq_getElem hi)
      rw [List.getElem?_eq_getElem hu] at h1
      cases h1
      exact .cons h2 ih
    · rw [List.getElem?_eq_none (by omega), List.getElem?_eq_none (by omega)]
      exact ih
theorem pe_stp {X : Cx} {e : Expr} {te : TE} {k kk : Nat} {p1 p3 pos : Pos} (hk : 0 < k) (he : PE X e te) : PE X (.Subscript e (.Slice none none (some (.Constant (.int (k : Int)) kk p1)) p3) pos) (tStp X.K k te) :=
  pe_step (r := fun x H Q => ∃ a xs, x = .ref a ∧ SqL X.K H a xs ∧ ∀ p, H p = none → Q (.ref p) (upd H p (.lst (pickK k xs)))) (te := te) he ⟨fun pins s σ H R I h => (po_some pe_int).run pins s σ H R I ⟨(k : Int), rfl, h⟩⟩
    (st_list (g := fun its => pickK k its.toList) (by omega) (fun p o i => by with_unfolding_all rfl) (fun its => by
      have hk' : (k : Int) > 0 := by omega
      unfold slicePick pickK sliceBounds
      simp only [Option.getD_some, hk', if_true, Array.length_toList, Array.getElem?_toList]) fun xs its r => ⟨by
        unfold pickK
        rw [r.length]
        simpa using vals_pick r _, pickK_len hk⟩)
theorem i_stp {a : E} {k : Nat} {Q : VK} (h : rdE cs cl fl K (.stp a k) σ H Q) : tStp K k (rdE cs cl fl K a) σ H Q := by
  obtain ⟨Z, ρ, st, tm, I, F⟩ := h
  unfold Fit hd at F
  refine ⟨Z, ρ, st, tm, I, (W_bind.mp F).mono fun x s1 F Z1 ρ1 v H1 l1 p1 I1 hx => ?_⟩
  obtain ⟨pa, w1, F⟩ := look_ok (W_bind.mp F) I1 hx
  obtain ⟨r, e, F⟩ := W_opt (W_bind.mp F)
  have I2 : In K cs Z1 ρ1 H1 s1 σ tm := I1.drops
  have q : Ans K cs Z1 ρ1 s1.h (s1.e.zip σ ++ tm) r Q := fun v H' Z' l' R => F Z' ρ1 v H' (l1.trans l') p1 (I2.ans R) trivial
  unfold getStp at e
  split at e
  · rename_i xs hx
    cases e
    obtain ⟨p, vs, e1, s1, r1⟩ := w1.lv I2.rel.le hx
    refine ⟨p, vs, e1, SqL.of s1, fun p hp => q.newL I2.rel ?_ hp⟩
    unfold pickK
    rw [r1.length]
    exact rds_pick r1 _
  · cases e
end
end Lw

set_option Elab.async false
set_option linter.all false
set_option maxRecDepth 100000
set_option maxHeartbeats 8000000
/-! Lw: zip(a, b, strict=False) -/
namespace Lw
section
open PySem
theorem zk_call (a b v : Value) : checkTypeCall "zip" ⟨[a, b], [(Str.ofString "strict", v)]⟩ = pure () := by kernel_rfl
theorem zk_new (a b v : Value) : checkBuiltinCall "zip.__new__" ⟨[.type "zip", a, b], [(Str.ofString "strict", v)]⟩ = pure () := by kernel_rfl
theorem zk_init (a b c v : Value) : argsOk "object.__init__" ⟨[a, b, c], [(Str.ofString "strict", v)]⟩ := by unfold argsOk; kernel_rfl
theorem zk_meets (l1 l2 : Addr) (xs ys : Array Value) :
    Meets (Builtin.«zip.__new__» ⟨[.type "zip", .ref l1, .ref l2], [(Str.ofString "strict", .bool false)]⟩) (fun _ R s => s.heap.IsList l1 xs ∧ s.heap.IsList l2 ys ∧
      R (.ok (.ret (.ref (zipH4 s.heap l1 l2).objs.size))) { s with heap := zipH5 s.heap l1 l2 }) :=
  .of_wp fun prog w A R s h => by
    obtain ⟨hp, g, d, tk, os⟩ := s; obtain ⟨hl1, hl2, h⟩ := h
    have hsub := sub_zip
    have hL1 : Heap.IsList (Shared.heap ⟨hp, g, d, tk, os⟩) l1 xs := hl1
    have hL2 : Heap.IsList (Shared.heap ⟨hp.push { cls := .type "list_iterator", data := .fields #[.ref l1, .int 0 0] }, g, d, tk, os⟩) l2 ys := Heap.IsList.push hl2 _
    have e1 : (Str.ofString "strict" == ("strict" : Str)) = true := by decide +kernel
    have e2 : (Str.ofString "strict" != ("strict" : Str)) = false := by decide +kernel
    wp_walk using wpAny_pyIter_list hL1, wpAny_pyIter_list hL2
    exact ⟨_, rfl, h⟩
variable {prog : Program} {w : World} {A : Around} {E : Value → Shared → Prop} {s : Shared}
/-- the five new cells of a zip of two lists -/
theorem zk_cells (h : Heap) (a b : Addr) : IsZip (zipH5 h a b) (h.objs.size + 4) (h.objs.size + 2) (h.objs.size + 3) .none ∧ IsPair (zipH5 h a b) (h.objs.size + 2) (.ref h.objs.size) (.ref (h.objs.size + 1)) ∧ IsPair (zipH5 h a b) (h.objs.size + 3) .none .none ∧
    (zipH5 h a b).IsListIter h.objs.size a 0 ∧ (zipH5 h a b).IsListIter (h.objs.size + 1) b 0 ∧ (zipH5 h a b).objs.size = h.objs.size + 5 ∧ (zipH4 h a b).objs.size = h.objs.size + 4 ∧ ∀ c o, h.get? c = some o → (zipH5 h a b).get? c = some o := by
  have n1 : (zipH1 h a).objs.size = h.objs.size + 1 := Heap.size_push ..
  have n2 : (zipH2 h a b).objs.size = h.objs.size + 2 := by rw [Heap.size_push, n1]
  have n3 : (zipH3 h a b).objs.size = h.objs.size + 3 := by rw [Heap.size_push, n2]
  have n4 : (zipH4 h a b).objs.size = h.objs.size + 4 := by rw [Heap.size_push, n3]
  have n5 : (zipH5 h a b).objs.size = h.objs.size + 5 := by rw [Heap.size_push, n4]
  have k5 : (zipH5 h a b).get? (zipH4 h a b).objs.size = some _ := Heap.get?_push_size _ rfl
  have k4 : (zipH5 h a b).get? (zipH3 h a b).objs.size = some _ := Heap.get?_push_of_some _ (Heap.get?_push_size _ rfl)
  have k3 : (zipH5 h a b).get? (zipH2 h a b).objs.size = some _ := Heap.get?_push_of_some _ (Heap.get?_push_of_some _ (Heap.get?_push_size _ rfl))
  have k2 : (zipH5 h a b).get? (zipH1 h a).objs.size = some _ := Heap.get?_push_of_some _ (Heap.get?_push_of_some _ (Heap.get?_push_of_some _ (Heap.get?_push_size _ rfl)))
  have k1 : (zipH5 h a b).get? h.objs.size = some _ := Heap.get?_push_of_some _ (Heap.get?_push_of_some _ (Heap.get?_push_of_some _ (Heap.get?_push_of_some _ (Heap.get?_push_size _ rfl))))
  rw [n2, n3, n4] at k5
  rw [n1, n2] at k3
  rw [n3] at k4
  rw [n1] at k2
  exact ⟨k5, k3, k4, ⟨_, k1, rfl, rfl⟩, ⟨_, k2, rfl, rfl⟩, n5, n4, fun c o e => Heap.get?_push_of_some _ (Heap.get?_push_of_some _ (Heap.get?_push_of_some _ (Heap.get?_push_of_some _ (Heap.get?_push_of_some _ e))))⟩
theorem call_zipK {a b : Addr} {xs ys : Array Value} {Q : Value → Shared → Prop} (ha : s.heap.IsList a xs) (hb : s.heap.IsList b ys)
    (k : ∀ h', IsZip h' (s.heap.objs.size + 4) (s.heap.objs.size + 2) (s.heap.objs.size + 3) .none → IsPair h' (s.heap.objs.size + 2) (.ref s.heap.objs.size) (.ref (s.heap.objs.size + 1)) →
      IsPair h' (s.heap.objs.size + 3) .none .none → h'.IsListIter s.heap.objs.size a 0 → h'.IsListIter (s.heap.objs.size + 1) b 0 →
      (∀ c o, s.heap.get? c = some o → h'.get? c = some o) → Q (.ref (s.heap.objs.size + 4)) { s with heap := h' }) :
    wpAny (model prog w) A (call (.type "zip") [.ref a, .ref b] [(Str.ofString "strict", .bool false)]) Q E s := by
  refine callType_newKw F.called_zip (by decide) (zk_call _ _ _) (zk_new _ _ _) (fun obj => zk_init obj _ _ _) F.entry_zip_new (zk_meets a b xs ys) ⟨ha, hb, ?_⟩
  obtain ⟨c1, c2, c3, c4, c5, c6, c7, c8⟩ := zk_cells s.heap a b
  show _ ∧ _
  rw [c7]
  exact ⟨⟨_, c1, rfl⟩, k _ c1 c2 c3 c4 c5 c8⟩
theorem callWith_typeK {M : Model} {pos : Pos} {T : String} {args : List (Bool × Sem Value)} {keywords : List (Option Str × Sem Value)} {Q : Value → Shared → Prop} (hplain : args.any (·.1) = false) (hkw : keywords.any (·.1.isNone) = false)
    (h : wpAny M A (evalArgs (.type T) true args keywords) (fun a s₁ => wpAny M A (call (.type T) a.pos a.kw) Q E s₁) E s) : wpAny M A (callWith pos (.type T) [] args keywords) Q E s := by
  unfold callWith
  refine wpAny_bind (wpAny_holding (wpAny_mono h (fun a s₁ h₁ => wpAny_bind (wpAny_standAt ?_)) fun _ _ x => x))
  simp only [hplain, hkw, Bool.or_false]
  refine wpAny_bind (wpAny_pure ?_)
  exact wpAny_bind (wpAny_mono h₁ (fun r s₂ hr => wpAny_bind (wpAny_holding (wpAny_point (wpAny_pure hr)))) fun _ _ x => x)
end
open PySem L2 PySem.Spec PyProof.Rows
theorem pi_zipK {X : Cx} {e e2 : Expr} {ta : TA} {p pos tpos kp cp : Pos} {ck : Nat} {elts : List Expr} {kk : Nat} (hg : Gl X "zip") (hm : X.mg "zip" = none) (ha : PA X [e, e2] ta)
    (hs : starEach [e, e2] X.env = (false, eval e X.env) :: starEach [e2] X.env := by rfl) (hpl : (backTo pos (starEach [e2] X.env)).any (·.1) = false := by rfl) :
    PI X (.Tuple elts kk tpos) (.Call (.Name "zip" p) [e, e2] [⟨some "strict", .Constant (.bool false) ck cp, kp⟩] pos) (fun σ H R => ta σ H fun vs H1 => ∃ a b xs ys, vs = [.ref a, .ref b] ∧ SqL X.K H1 a xs ∧ SqL X.K H1 b ys ∧ R (Itz X.K a b) H1) := by
  refine ⟨fun pins s σ H R I h => ?_⟩
  refine wpAny_Call_Name_kw (ld_blt I hg hm PyProof.Rows.boot_zip ?_)
  refine callWith_typeK (by rw [hs]; exact hpl) rfl ?_
  have hb : backTo pos (starEach [e, e2] X.env) = (false, eval e X.env) :: backTo pos (starEach [e2] X.env) := by rw [hs]; rfl
  have hA := ha.run pos pins s σ H _ I h
  rw [hb] at hA ⊢
  refine evalArgs_kwB rfl (thn hA fun us s1 ⟨vs, H1, I1, r1, q1⟩ => ?_)
  refine kws_cons (Constant_bool (kws_nil ?_))
  obtain ⟨a, b, xs, ys, ex, hqx, hqy, q⟩ := q1
  subst ex
  cases r1 with
  | cons r rr =>
    cases rr with
    | cons r' rr =>
      cases rr
      cases r
      cases r'
      have fresh5 : ∀ c, c ∈ [s1.heap.objs.size + 4, s1.heap.objs.size + 2, s1.heap.objs.size + 3, s1.heap.objs.size, s1.heap.objs.size + 1] → FpOk X pins H1 c := fun c hcm => by
        have hle : s1.heap.objs.size ≤ c := by
          simp only [List.mem_cons, List.not_mem_nil, or_false] at hcm
          rcases hcm with z | z | z | z | z <;> rw [z] <;> first | exact Nat.le_add_right _ _ | exact Nat.le_refl _
        exact I1.fpOk hle (I1.hok.fresh hle)
      obtain ⟨its, rv, p1, _⟩ := I1.list hqx
      obtain ⟨its2, rv2, p2, _⟩ := I1.list hqy
      refine call_zipK p1.isList p2.isList fun h' hz hTI hTO h1 h2 hk => wpAny_pyIter_zip hz ?_
      have I2 : L2.Inv X pins σ H1 { s1 with heap := h' } := I1.kept (t' := s1.toks) hk
      exact ⟨s1.heap.objs.size + 4, [s1.heap.objs.size + 4, s1.heap.objs.size + 2, s1.heap.objs.size + 3, s1.heap.objs.size, s1.heap.objs.size + 1], _, _, H1, rfl, I2, turn_zip (PySem.W.ktu_apart s1.heap.objs.size a b p1.lt p2.lt), ⟨hz, hTI, ⟨_, _, hTO⟩, h1, h2⟩, fresh5, q⟩
theorem r_zipK {X : Cx} {cs : Nat → Option Addr} {cl : Cl} {fl : Nat → List Bool} {e e2 : Expr} {es : E} {p pos tpos kp cp : Pos} {ck : Nat} {elts : List Expr} {kk : Nat} (hg : Gl X "zip") (hm : X.mg "zip" = none) (ha : PA X [e, e2] (rdO cs X.K (avs cl fl [] es)))
    (hs : starEach [e, e2] X.env = (false, eval e X.env) :: starEach [e2] X.env) (hpl : (backTo pos (starEach [e2] X.env)).any (·.1) = false) :
    PI X (.Tuple elts kk tpos) (.Call (.Name "zip" p) [e, e2] [⟨some "strict", .Constant (.bool false) ck cp, kp⟩] pos) (rdI cs cl fl X.K (.zipE es)) := by
  refine ⟨fun pins s σ H R I h => ?_⟩
  refine (pi_zipK hg hm ha hs hpl).run pins s σ H R I ?_
  obtain ⟨Z, ρ, st, tm, J, F⟩ := h
  unfold its at F
  refine ⟨Z, ρ, st, tm, J, (W_bind.mp F).mono fun os s1 F Z1 ρ1 vs H1 l p hl I1 => ?_⟩
  split at F
  rotate_left
  · exact F.elim
  rename_i xs ys
  match vs, hl with
  | [v1, v2], _ =>
    have I1 : In X.K cs Z1 ρ1 H1 s1 _ ((.d (.lst xs), some v1) :: (.d (.lst ys), some v2) :: tm) := I1
    obtain ⟨a, vs, e1, h1, r1⟩ := I1.rd.lst
    obtain ⟨b, us, e2, h2, r2⟩ := I1.drop.rd.lst
    subst e1
    subst e2
    exact ⟨a, b, vs, us, rfl, SqL.of (I1.rel.le _ _ h1), SqL.of (I1.rel.le _ _ h2), F Z1 ρ1 H1 _ l p I1.drop.drop (itz_ok h1 h2 r1 r2)⟩
end Lw

set_option Elab.async false
set_option linter.all false
set_option maxRecDepth 100000
set_option maxHeartbeats 4000000
/-! Lw: list.remove of a text, sum(lists, []) where there may be no list, tuple(range(n)) -/
namespace Lw
open PySem L2 PySem.Spec PyProof.Rows
section
variable {X : Cx}
def rRemS : V → List V → Hp → VK → Prop := fun x xs H Q => ∃ (l : Addr) (ns : List Str) (k : Str) (j : Nat), x = .ref l ∧ xs = [.str k] ∧ H l = some (.lst (ns.map V.str)) ∧ ns[j]? = some k ∧ (∀ m : Nat, m < j → ns[m]? ≠ some k) ∧ Q .non (upd H l (.lst ((ns.eraseIdx j).map V.str)))
theorem erase_mapS : ∀ (l : List Str) (j : Nat), (l.map V.str).eraseIdx j = (l.eraseIdx j).map V.str
  | [], j => by simp
  | a :: r, 0 => by simp
  | a :: r, j + 1 => by
    have ih := erase_mapS r j
    simp [ih]
theorem strs_at : ∀ {us : List Value} {ns : List Str}, StrsAre us ns → ∀ (j : Nat) (k : Str), ns[j]? = some k → ∃ t, us[j]? = some (.str k t)
  | _, _, .nil, j, k, h => by simp at h
  | _, _, .cons n t r, 0, k, h => by simp at h; subst h; exact ⟨t, rfl⟩
  | _, _, .cons n t r, j + 1, k, h => by simpa using strs_at r j k (by simpa using h)
theorem strs_len : ∀ {us : List Value} {ns : List Str}, StrsAre us ns → us.length = ns.length
  | _, _, .nil => rfl
  | _, _, .cons n t r => by simp [strs_len r]
theorem mt_removeS : MtM X "list.remove" rRemS := by
  intro pins s σ H x xs v us Q I rx rxs h
  obtain ⟨l, ns, k, j, rfl, rfl, hH, hj, hno, q⟩ := h
  cases rx
  obtain ⟨u, rfl, ru⟩ := rxs.one
  obtain ⟨t, rfl⟩ := ru
  obtain ⟨z, its, n, r, hl, e⟩ := I.lstM hH
  have hi := strs_of_vals r
  rw [List.length_map] at hl z
  have hjn : j < ns.length := (List.getElem?_eq_some_iff.mp hj).1
  have hjl : j < its.toArray.size := by rw [List.size_toArray]; omega
  refine call_meets PySem.F.slot_list_remove ⟨_, e, rfl⟩ PySem.F.entry_list_remove (PySem.F.args_list_remove_2 _ _)
    (MeetsSeq.list_remove l its.toArray n (.str k t) (isStrOf k) (fun y hy => eq_isStrOf k t hi y (by simpa using hy)) j hjl ?_ ?_ (by rw [List.size_toArray]; omega)) ⟨e, ?_⟩
  · obtain ⟨tj, hjt⟩ := strs_at hi j k hj
    obtain ⟨h1, h2⟩ := List.getElem?_eq_some_iff.mp hjt
    have e1 : its.toArray[j] = .str k tj := by simpa using h2
    rw [e1]
    exact beq_self_eq_true k
  · intro m hm hmj
    have hmn : m < ns.length := by omega
    obtain ⟨tm, hmt⟩ := strs_at hi m _ (List.getElem?_eq_getElem hmn)
    obtain ⟨h1, h2⟩ := List.getElem?_eq_some_iff.mp hmt
    have e1 : its.toArray[m] = .str ns[m] tm := by simpa using h2
    rw [e1]
    refine beq_eq_false_iff_ne.mpr fun e2 => hno m hmj ?_
    rw [List.getElem?_eq_getElem hmn, e2]
  · have rr := r.eraseIdx j
    rw [erase_mapS] at rr
    refine ⟨.non, _, I.lset (its' := its.eraseIdx j) (t' := s.toks) hH e ?_ rr ?_, rfl, q⟩
    · show its.toArray.eraseIdxIfInBounds j = (its.eraseIdx j).toArray
      rw [List.eraseIdxIfInBounds_toArray]
    · rw [List.length_map, List.length_eraseIdx]
      split <;> omega
end
section
variable {K : Fg} {cs : Nat → Option Addr} {cl : Cl} {fl : Nat → List Bool} {σ : L2.St} {H : Hp}
theorem i_remove {o e : E} {Q : VK} (h : rdE cs cl fl K (.mth .remove o (.cons e .nil)) σ H Q) : tBM K "list" rRemS (rdE cs cl fl K o) (rdH cs cl fl K (.cons e .nil)) σ H Q := by
  obtain ⟨Z, ρ, st, tm, I, F⟩ := h
  unfold Fit hd at F
  refine ⟨Z, ρ, st, tm, I, (W_bind.mp F).mono fun x s1 F Z1 ρ1 v H1 l1 p1 I1 hx => ?_⟩
  obtain ⟨p, w, F⟩ := look_ok (W_bind.mp F) I1 hx
  split at F
  · rename_i hr
    obtain ⟨xs, ep⟩ := recv_list (by decide) hr
    subst ep
    obtain ⟨a, vs, e1, ha, r1⟩ := w
    refine ⟨by subst e1; exact .inl ⟨rfl, _, SqL.of ha⟩, Z1, ρ1, s1, _, I1, (W_bind.mp F).mono fun ys s2 F Z2 ρ2 us H2 l2 p2 I2 hy => ?_⟩
    obtain ⟨os, w2, F⟩ := looks_ok (W_bind.mp F) I2 hy
    obtain ⟨xs, a, vs, zs, r, ea, ha, r1, hf, k⟩ := modL_ok (W_bind.mp F) I2.drops hx
    unfold mRemove at hf
    split at hf
    · rename_i z
      obtain ⟨u0, eu, wu⟩ := Paired.one w2
      subst eu
      split at hf
      · rename_i ys hys
        split at hf
        · rename_i hc
          cases hf
          have hc := of_decide_eq_true hc
          obtain ⟨e1, e2⟩ := strs_rel hys r1
          subst e2
          obtain ⟨s5, F, I5⟩ := k _ (r1.erase (ys.idxOf z))
          have hz : ys[ys.idxOf z]? = some z := by
            rw [List.getElem?_eq_getElem hc]
            exact congrArg some (List.getElem_idxOf hc)
          refine ⟨a, ys, z, ys.idxOf z, ea, by rw [wu.rd.str], ha, hz, fun m hm h => ?_, ?_⟩
          · have hm2 : m < ys.length := by omega
            rw [List.getElem?_eq_getElem hm2] at h
            have h := Option.some.inj h
            have := List.not_of_lt_findIdx (p := (· == z)) (xs := ys) (i := m) hm
            simp [h] at this
          · rw [erase_mapS] at I5
            exact F Z2 ρ2 _ _ (l1.trans l2) (p1.trans p2) (I5.dat rd_non) trivial
        · cases hf
      · cases hf
    · cases hf
  · exact F.elim
/-! sum(lists, []) -/
def rSumS (K : Fg) : List V → Hp → VK → Prop := fun vs H Q => ∃ a b ks Z ρ xs ys, vs = [.ref a, .ref b] ∧ SqL K H a ks ∧ H b = some (.lst []) ∧ Le Z H ∧ RDs K Z ρ xs ks ∧ H a = some (.lst ks) ∧ catD xs = some ys ∧ line ys.length = true ∧
  ∀ ws, RDs K Z ρ ys ws → ∀ p, p = b ∨ H p = none → Q (.ref p) (upd H p (.lst ws))
theorem call_sumS {X : Cx} (hc : X.calm = true) : CallR X (.builtin "sum") (rSumS X.K) := by
  rintro pins s σ H vs us Q I r ⟨a, b, ks, Z, ρ, xs, ys, rfl, s1, hb, le, r1, ha, e3, hl, q⟩
  cases r with
  | cons ra r =>
    cases r with
    | cons rb r =>
      cases r
      cases ra
      cases rb
      obtain ⟨_, its, n, rv, _, ea⟩ := I.lstM ha
      obtain ⟨_, its2, n2, rv2, _, eb⟩ := I.lstM hb
      cases rv2
      obtain ⟨part, ws, h1, h2, h3, h4⟩ := parts_of I le e3 r1 rv
      have hz : part.flatten.length ≤ sizeLine := by rw [← h4.length, ← h3.length]; exact line_le hl
      refine call_sumL (I.ok.hd hc) ⟨n, ea⟩ ⟨n2, eb⟩ h1 h2 (fun i => Nat.le_trans (take_flat _ _) hz) fun a' h' tk far la keep => ?_
      obtain ⟨m, la⟩ := la
      have fin : ObjOk X.prog X.w (upd H a' (.lst ws)) h' a' (.lst ws) := ⟨by rw [h4.length]; exact hz, _, m, h4, la⟩
      rcases far with ⟨f1, f2⟩ | far
      · subst f2
        have ep := List.length_eq_zero_iff.mp f1
        subst ep
        cases h4
        have eH : upd H a' (.lst []) = H := by
          funext x
          by_cases hx : x = a'
          · subst hx; rw [upd_same, hb]
          · exact upd_ne hx
        exact ⟨.ref a', _, I.kept (t' := tk) keep, rfl, by have := q [] h3 a' (.inl rfl); rw [eH] at this; exact this⟩
      · exact ⟨.ref a', _, I.laid (o := .lst ws) (t' := tk) keep far ⟨by rw [h4.length]; exact hz, _, m, h4, la⟩, rfl, q ws h3 a' (.inr (I.hok.fresh far))⟩
theorem i_sumS {a : E} {Q : VK} (h : rdE cs cl fl K (.sumS a) σ H Q) : tCB (rSumS K) (tCons (rdE cs cl fl K a) (tCons (tLst tNil) tNil)) σ H Q := by
  obtain ⟨Z, ρ, st, tm, I, F⟩ := h
  unfold Fit hd at F
  refine ⟨Z, ρ, st, tm, I, (W_bind.mp F).mono fun x s1 F Z1 ρ1 v H1 l1 p1 I1 hx => ?_⟩
  obtain ⟨pa, w1, F⟩ := look_ok (W_bind.mp F) I1 hx
  obtain ⟨r, e, F⟩ := W_opt (W_bind.mp F)
  have I2 : In K cs Z1 ρ1 H1 s1 σ tm := I1.drops
  have q : Ans K cs Z1 ρ1 s1.h (s1.e.zip σ ++ tm) r Q := fun v H' Z' l' R => F Z' ρ1 v H' (l1.trans l') p1 (I2.ans R) trivial
  unfold sumS at e
  split at e
  · rename_i xs hx
    split at e
    · rename_i ys hy
      split at e
      · rename_i hl
        cases e
        obtain ⟨p, vs, e1, s1, r1⟩ := w1.lv I2.rel.le hx
        subst e1
        refine ⟨Nat.zero_le _, fun b hb => ?_⟩
        have R := I2.rel.newL hb (xs := []) (vs := []) (by unfold RDs; rfl)
        have hbp : p ≠ b := by rintro rfl; rw [hb] at s1; cases s1
        refine ⟨p, b, vs, Z1, ρ1, xs, ys, rfl, SqL.of (by rw [upd_ne hbp]; exact s1), upd_same, R.le, r1, by rw [upd_ne hbp]; exact s1, hy, hl, fun ws hw c hc => ?_⟩
        rcases hc with hc | hc
        · subst hc
          rw [upd_upd]
          exact q.newL I2.rel hw hb
        · exact q.newL R.drop hw hc
      · cases e
    · cases e
  · cases e
/-! tuple(range(n)) -/
theorem i_rngt {a : E} {Q : VK} (h : rdE cs cl fl K (.rngt a) σ H Q) : tTupRg (tRg1 (rdE cs cl fl K a)) σ H Q := by
  obtain ⟨Z, ρ, st, tm, I, F⟩ := h
  unfold Fit hd at F
  refine ⟨Z, ρ, st, tm, I, (W_bind.mp F).mono fun x s1 F Z1 ρ1 v H1 l1 p1 I1 hx => ?_⟩
  obtain ⟨i, ei, I2, F⟩ := intOf_ok (W_bind.mp F) I1
  refine ⟨i, ei, ?_⟩
  split at F
  · rename_i hb
    simp only [Bool.and_eq_true, decide_eq_true_eq] at hb
    refine ⟨⟨by omega, by omega, by omega, by omega, by omega⟩, fun q hq => ?_⟩
    obtain ⟨l2, R⟩ := I2.rel.newT hq (rds_rg (K := K) (Z := Z1) (ρ := ρ1) (i := i))
    exact F _ ρ1 _ _ (l1.trans l2) p1 (I2.ans R) trivial
  · exact F.elim
/-! f'{a}z{b}' -/
theorem fmt_ok {p : O} {y : Str} {v : V} {Z : Hp} {ρ : List Addr} {H1 : Hp} (e : fmtV p = some y) (w : View K cs Z ρ H1 p v) : (v = .str y ∧ y.length ≤ sizeLine) ∨ ∃ i : Int, v = .int i ∧ i.natAbs.log2 < 1920 ∧ y = toString i := by
  unfold fmtV at e
  split at e
  · split at e
    · rename_i hl
      cases e
      exact .inr ⟨_, w.rd.int, of_decide_eq_true hl, rfl⟩
    · cases e
  · split at e
    · rename_i hl
      cases e
      exact .inl ⟨w.rd.str, line_le hl⟩
    · cases e
  · cases e
theorem str_empty (y : Str) : Str.empty ++ y = y := by
  cases y
  show Str.mk (#[] ++ _) = _
  rw [Array.empty_append]
theorem str_len (x y : Str) : x.length ≤ (x ++ y).length := by
  show x.cps.size ≤ (x.cps ++ y.cps).size
  rw [Array.size_append]
  omega
theorem i_fst {a b : E} {z : Str} {Q : VK} (h : rdE cs cl fl K (.fst a z b) σ H Q) : tJs [tFmt (rdE cs cl fl K a), tC (.str z), tFmt (rdE cs cl fl K b)] Str.empty σ H (fun out H1 => Q (.str out) H1) := by
  obtain ⟨Z, ρ, st, tm, I, F⟩ := h
  unfold Fit hd at F
  simp only [tJs]
  refine ⟨Z, ρ, st, tm, I, (W_bind.mp F).mono fun x s1 F Z1 ρ1 v H1 l1 p1 I1 hx => ?_⟩
  obtain ⟨pa, w1, F⟩ := look_ok (W_bind.mp F) I1 hx
  obtain ⟨y1, e, F⟩ := W_opt (W_bind.mp F)
  have I2 : In K cs Z1 ρ1 H1 s1 σ tm := I1.drops
  split at F
  rotate_left
  · exact F.elim
  rename_i hl
  have hl := line_le hl
  have hl1 : y1.length ≤ sizeLine := Nat.le_trans (str_len y1 z) hl
  have k : ∃ y : Str, V.str y1 = .str y ∧ (Str.empty ++ y).length ≤ sizeLine ∧ tC (.str z) σ H1 (fun x H2 => ∃ u : Str, x = .str u ∧ (Str.empty ++ y ++ u).length ≤ sizeLine ∧ tFmt (rdE cs cl fl K b) σ H2 (fun x H3 => ∃ u2 : Str, x = .str u2 ∧ (Str.empty ++ y ++ u ++ u2).length ≤ sizeLine ∧ Q (.str (Str.empty ++ y ++ u ++ u2)) H3)) := by
    refine ⟨y1, rfl, by rw [str_empty]; exact hl1, z, rfl, by rw [str_empty]; exact hl, ?_⟩
    rw [str_empty]
    refine ⟨Z1, ρ1, s1, tm, I2, (W_bind.mp F).mono fun x s2 F Z2 ρ2 v2 H2 l2 p2 I3 hx2 => ?_⟩
    obtain ⟨pb, w2, F⟩ := look_ok (W_bind.mp F) I3 hx2
    obtain ⟨y2, e2, F⟩ := W_opt (W_bind.mp F)
    have I4 : In K cs Z2 ρ2 H2 s2 σ tm := I3.drops
    split at F
    rotate_left
    · exact F.elim
    rename_i hl2
    have hl2 := line_le hl2
    have q : Q (.str (y1 ++ z ++ y2)) H2 := F Z2 ρ2 _ _ (l1.trans l2) (p1.trans p2) (In.dat I4 (rd_str _)) trivial
    rcases fmt_ok e2 w2 with ⟨ev, hy⟩ | ⟨i, ev, hi, ey⟩
    · exact .inl ⟨y2, ev, hy, y2, rfl, hl2, q⟩
    · subst ey
      exact .inr ⟨i, ev, hi, _, rfl, hl2, q⟩
  rcases fmt_ok e w1 with ⟨ev, hy⟩ | ⟨i, ev, hi, ey⟩
  · exact .inl ⟨y1, ev, hy, k⟩
  · subst ey
    exact .inr ⟨i, ev, hi, k⟩
end
end Lw

set_option Elab.async false
set_option linter.all false
set_option maxRecDepth 100000
set_option maxHeartbeats 8000000
/-! Lw, part 11: every expression of the fragment -/
namespace Lw
open PySem L2 PySem.Spec PyProof.Rows
section
variable {g : Gm} {cs : Nat → Option Addr} {cl : Cl} {fl : Nat → List Bool} {N : List Str} {fp : Str → Bool} {sc : Scope} {X : Cx}
theorem few_of {es : E} {xs : List Expr} (h : mtL g N fp sc es xs = true) (hl : xs.length < 30) (env : Env) (pos : Pos) :
    ((backTo pos (starEach xs env)).all (fun x => !x.1) && (backToKw pos (keywordEach [] env)).all (fun x => x.1.isSome) && decide (xs.length + ([] : List Keyword).length + (if ([] : List Keyword).isEmpty then 0 else 1) < 30)) = true := by
  rw [(stars_of h env pos).2]
  simp [keywordEach, backToKw]
  exact hl
theorem sd_var (O : XOk g cs cl fl N fp sc X) (i : Nat) : Sd g cs cl fl (.var i) N fp sc X where
  ev := fun x h => by
    cases x <;> first | (simp [mt] at h; done) | skip
    rename_i y pos
    simp only [mt, Bool.and_eq_true, decide_eq_true_eq] at h
    obtain ⟨h1, h2, _⟩ := goodN_of (O.good _ _ h.1)
    have p : PE X (.Name y pos) (rdE cs cl fl X.K (.var i)) := Lw.PE.imp (pe_var (by rw [O.hN]; exact h.1) (vis_of O h.2) h1 h2) fun σ H Q q => i_var q
    exact ⟨p, pt_plain p fun _ => rfl⟩
  bo := fun op vs p h => by simp [mt] at h
  ls := fun xs h => by cases xs <;> simp [mtL] at h
  pt := fun o h => by cases o <;> simp [mtP] at h
  it := fun tg x h => by cases x <;> simp [mtI] at h
  tg := fun x h => by
    cases x <;> first | (simp [mtG] at h; done) | skip
    rename_i y pos
    simp only [mtG, Bool.and_eq_true, decide_eq_true_eq] at h
    obtain ⟨h1, h2⟩ := loc_of O h.2
    exact Lw.PG.imp (pg_name (by rw [O.hN]; exact O.nd) (by rw [O.hN]; exact h.1) h1 h2) fun v σ H Q q => g_var q
  ts := fun xs h => by cases xs <;> simp [mtGs] at h
theorem sd_con (O : XOk g cs cl fl N fp sc X) (d : D) : Sd g cs cl fl (.con d) N fp sc X := by
  refine Sd.of (fun x h => ?_) (fun op vs p h => by simp [mt] at h) (fun xs => by cases xs <;> simp [mtL]) (fun o => by cases o <;> simp [mtP]) (fun tg x => by cases x <;> simp [mtI]) (fun x => by cases x <;> simp [mtG]) (fun xs => by cases xs <;> simp [mtGs])
  cases x <;> first | (simp [mt] at h; done) | skip
  · rename_i c j pos
    simp only [mt] at h
    have p : PE X (.Constant c j pos) (rdE cs cl fl X.K (.con d)) := by
      cases d <;> cases c <;> first | (simp [conB] at h; done) | skip
      · exact Lw.PE.imp pe_non fun σ H Q q => i_con (fun Z ρ => rd_non) q
      · simp only [conB, beq_iff_eq] at h
        subst h
        exact Lw.PE.imp pe_bl fun σ H Q q => i_con (fun Z ρ => rd_bl _) q
      · simp only [conB, beq_iff_eq] at h
        subst h
        exact Lw.PE.imp pe_int fun σ H Q q => i_con (fun Z ρ => rd_int _) q
      · simp only [conB, decide_eq_true_eq] at h
        subst h
        exact Lw.PE.imp pe_str fun σ H Q q => i_con (fun Z ρ => rd_str _) q
    exact ⟨p, pt_plain p fun _ => rfl⟩
  · rename_i y pos
    cases d <;> first | (simp [mt] at h; done) | skip
    · rename_i i
      simp only [mt, Bool.and_eq_true, Bool.not_eq_true'] at h
      obtain ⟨⟨h1, h2⟩, h3⟩ := h
      have p : PE X (.Name y pos) (rdE cs cl fl X.K (.con (.int i))) := Lw.PE.imp (C8.pe_gc (v := .int i) (gl_of O h1) (O.gcs _ _ (gc_mem h3)) h2) fun σ H Q q => i_con (fun Z ρ => rd_int _) q
      exact ⟨p, pt_plain p fun _ => rfl⟩
    · rename_i z
      simp only [mt, Bool.and_eq_true, Bool.not_eq_true'] at h
      obtain ⟨⟨h1, h2⟩, h3⟩ := h
      have p : PE X (.Name y pos) (rdE cs cl fl X.K (.con (.str z))) := Lw.PE.imp (C8.pe_gc (v := .str z) (gl_of O h1) (O.gcs _ _ (gc_mem h3)) h2) fun σ H Q q => i_con (fun Z ρ => rd_str _) q
      exact ⟨p, pt_plain p fun _ => rfl⟩
    rename_i n
    simp only [mt, Bool.and_eq_true, decide_eq_true_eq] at h
    obtain ⟨⟨h1, h2⟩, h3⟩ := h
    obtain ⟨b1, b2, b3⟩ := ty_boot h1
    obtain ⟨g1, g2, g3⟩ := goodN_of b3
    subst h2
    have p : PE X (.Name (Str.ofString n) pos) (rdE cs cl fl X.K (.con (.ty n))) := Lw.PE.imp (pe_bltn (v := .ty n) (gl_of O h3) (O.bn _ b2) b1 rfl g3 g1) fun σ H Q q => i_con (fun Z ρ => by unfold RD; rfl) q
    exact ⟨p, pt_plain p fun _ => rfl⟩
theorem sd_bin (O : XOk g cs cl fl N fp sc X) {op : Bop} {a b : E} (A : Sd g cs cl fl a N fp sc X) (B : Sd g cs cl fl b N fp sc X) : Sd g cs cl fl (.bin op a b) N fp sc X := by
  refine Sd.of (fun x h => ?_) (fun op vs p h => by simp [mt] at h) (fun xs => by cases xs <;> simp [mtL]) (fun o => by cases o <;> simp [mtP]) (fun tg x => by cases x <;> simp [mtI]) (fun x => by cases x <;> simp [mtG]) (fun xs => by cases xs <;> simp [mtGs])
  cases x <;> first | (simp [mt] at h; done) | skip
  rename_i x o y pos
  simp only [mt, Bool.and_eq_true, decide_eq_true_eq] at h
  obtain ⟨⟨h1, h2⟩, h3⟩ := h
  subst h1
  have p : PE X (.BinOp x (opOf op) y pos) (rdE cs cl fl X.K (.bin op a b)) := Lw.PE.imp (pe_op (op_bin op) (A.ev x h2).1 (B.ev y h3).1) fun σ H Q q => i_bin q
  exact ⟨p, pt_plain p fun _ => rfl⟩
theorem sd_neg (O : XOk g cs cl fl N fp sc X) {a : E} (A : Sd g cs cl fl a N fp sc X) : Sd g cs cl fl (.neg a) N fp sc X := by
  refine Sd.of (fun x h => ?_) (fun op vs p h => by simp [mt] at h) (fun xs => by cases xs <;> simp [mtL]) (fun o => by cases o <;> simp [mtP]) (fun tg x => by cases x <;> simp [mtI]) (fun x => by cases x <;> simp [mtG]) (fun xs => by cases xs <;> simp [mtGs])
  cases x <;> first | (simp [mt] at h; done) | skip
  rename_i o y pos
  cases o <;> first | (simp [mt] at h; done) | skip
  simp only [mt] at h
  have p : PE X (.UnaryOp .USub y pos) (rdE cs cl fl X.K (.neg a)) := Lw.PE.imp (pe_un un_neg (A.ev y h).1) fun σ H Q q => i_neg q
  exact ⟨p, pt_plain p fun _ => rfl⟩
theorem sd_cmp (O : XOk g cs cl fl N fp sc X) {op : Cop} {a b : E} (A : Sd g cs cl fl a N fp sc X) (B : Sd g cs cl fl b N fp sc X) : Sd g cs cl fl (.cmp op a b) N fp sc X := by
  refine Sd.of (fun x h => ?_) (fun op vs p h => by simp [mt] at h) (fun xs => by cases xs <;> simp [mtL]) (fun o => by cases o <;> simp [mtP]) (fun tg x => by cases x <;> simp [mtI]) (fun x => by cases x <;> simp [mtG]) (fun xs => by cases xs <;> simp [mtGs])
  cases x <;> first | (simp [mt] at h; done) | skip
  rename_i x os ys pos
  rcases os with _ | ⟨o, _ | ⟨o2, os⟩⟩ <;> rcases ys with _ | ⟨y, _ | ⟨y2, ys⟩⟩ <;> first | (simp [mt] at h; done) | skip
  simp only [mt, Bool.and_eq_true, decide_eq_true_eq] at h
  obtain ⟨⟨h1, h2⟩, h3⟩ := h
  subst h1
  have hu : X.A.units + 65 < cLine := by have := O.un; omega
  exact ⟨Lw.PE.imp (pe_cmpR (op_cmp hu op) (A.ev x h2).1 (B.ev y h3).1 (mark_of (no_set h3))) fun σ H Q q => i_cmp q,
    Lw.PT.imp (pt_cmpR (op_cmp hu op) (A.ev x h2).1 (B.ev y h3).1 (mark_of (no_set h3))) fun σ H Q q => i_cmp (i_test q)⟩
theorem sd_chn (O : XOk g cs cl fl N fp sc X) {o1 o2 : Cop} {a b c : E} (A : Sd g cs cl fl a N fp sc X) (B : Sd g cs cl fl b N fp sc X) (C : Sd g cs cl fl c N fp sc X) : Sd g cs cl fl (.chn o1 o2 a b c) N fp sc X := by
  refine Sd.of (fun x h => ?_) (fun op vs p h => by simp [mt] at h) (fun xs => by cases xs <;> simp [mtL]) (fun o => by cases o <;> simp [mtP]) (fun tg x => by cases x <;> simp [mtI]) (fun x => by cases x <;> simp [mtG]) (fun xs => by cases xs <;> simp [mtGs])
  cases x <;> first | (simp [mt] at h; done) | skip
  rename_i x os ys pos
  rcases os with _ | ⟨o, _ | ⟨p, _ | ⟨p3, os⟩⟩⟩ <;> rcases ys with _ | ⟨y, _ | ⟨z, _ | ⟨z3, ys⟩⟩⟩ <;> first | (simp [mt] at h; done) | skip
  simp only [mt, Bool.and_eq_true, decide_eq_true_eq] at h
  obtain ⟨⟨⟨⟨h1, h2⟩, h3⟩, h4⟩, h5⟩ := h
  subst h1; subst h2
  have hu : X.A.units + 65 < cLine := by have := O.un; omega
  have hm : lastMarks [copOf o1, copOf o2] [y, z] = false := mark_of (no_set h5)
  exact ⟨Lw.PE.imp (pe_chain (op_cmp hu o1) (op_cmp hu o2) (A.ev x h3).1 (B.ev y h4).1 (C.ev z h5).1 hm) fun σ H Q q => i_chn q,
    Lw.PT.imp (pt_chain (op_cmp hu o1) (op_cmp hu o2) (A.ev x h3).1 (B.ev y h4).1 (C.ev z h5).1 hm) fun σ H Q q => i_chn (i_test q)⟩
theorem sd_one (O : XOk g cs cl fl N fp sc X) {a : E} (A : Sd g cs cl fl a N fp sc X) : Sd g cs cl fl (.one a) N fp sc X := by
  have bo : ∀ op vs p, mt g N fp sc (.one a) (.BoolOp op vs p) = true → PW X (.BoolOp op vs p) (rdT cs cl fl X.K (.one a)) := fun op vs p h => by
    rcases vs with _ | ⟨x, _ | ⟨y, vs⟩⟩ <;> first | (simp [mt] at h; done) | skip
    simp only [mt] at h
    cases op with
    | And => exact pw_imp (pw_and1 (A.ev x h).2) fun σ H Q q => t_one q
    | Or => exact pw_imp (pw_or1 (A.ev x h).2) fun σ H Q q => t_one q
  constructor
  case ev =>
    intro x h
    cases x <;> first | (simp [mt] at h; done) | skip
    rename_i op vs p
    refine ⟨?_, (bo op vs p h).pt⟩
    rcases vs with _ | ⟨x, _ | ⟨y, vs⟩⟩ <;> first | (simp [mt] at h; done) | skip
    simp only [mt] at h
    exact Lw.PE.imp (pe_one (A.ev x h).1) fun σ H Q q => i_one q
  case bo => exact bo
  case ls => intro xs h; cases xs <;> simp [mtL] at h
  case pt =>
    intro o h
    cases o with
    | none => simp [mtP] at h
    | some x =>
      simp only [mtP] at h
      exact Lw.PO.imp (po_some (A.ev x h).1) fun σ H Q q => p_one q
  case it => intro tg x h; cases x <;> simp [mtI] at h
  case tg => intro x h; cases x <;> simp [mtG] at h
  case ts => intro xs h; cases xs <;> simp [mtGs] at h
theorem sd_and (O : XOk g cs cl fl N fp sc X) {a b : E} (A : Sd g cs cl fl a N fp sc X) (B : Sd g cs cl fl b N fp sc X) : Sd g cs cl fl (.and a b) N fp sc X := by
  have bo : ∀ op vs p, mt g N fp sc (.and a b) (.BoolOp op vs p) = true → PW X (.BoolOp op vs p) (rdT cs cl fl X.K (.and a b)) := fun op vs p h => by
    rcases vs with _ | ⟨x, _ | ⟨y, vs⟩⟩ <;> cases op <;> first | (simp [mt] at h; done) | skip
    simp only [mt, Bool.and_eq_true] at h
    exact pw_imp (pw_and (A.ev x h.1).2 (B.bo _ _ _ h.2)) fun σ H Q q => t_and q
  refine Sd.of (fun x h => ?_) bo (fun xs => by cases xs <;> simp [mtL]) (fun o => by cases o <;> simp [mtP]) (fun tg x => by cases x <;> simp [mtI]) (fun x => by cases x <;> simp [mtG]) (fun xs => by cases xs <;> simp [mtGs])
  cases x <;> first | (simp [mt] at h; done) | skip
  rename_i op vs p
  refine ⟨?_, (bo op vs p h).pt⟩
  rcases vs with _ | ⟨x, _ | ⟨y, vs⟩⟩ <;> cases op <;> first | (simp [mt] at h; done) | skip
  simp only [mt, Bool.and_eq_true] at h
  exact Lw.PE.imp (pe_and (A.ev x h.1).1 (B.ev _ h.2).1) fun σ H Q q => i_and q
theorem sd_or (O : XOk g cs cl fl N fp sc X) {a b : E} (A : Sd g cs cl fl a N fp sc X) (B : Sd g cs cl fl b N fp sc X) : Sd g cs cl fl (.or a b) N fp sc X := by
  have bo : ∀ op vs p, mt g N fp sc (.or a b) (.BoolOp op vs p) = true → PW X (.BoolOp op vs p) (rdT cs cl fl X.K (.or a b)) := fun op vs p h => by
    rcases vs with _ | ⟨x, _ | ⟨y, vs⟩⟩ <;> cases op <;> first | (simp [mt] at h; done) | skip
    simp only [mt, Bool.and_eq_true] at h
    exact pw_imp (pw_or (A.ev x h.1).2 (B.bo _ _ _ h.2)) fun σ H Q q => t_or q
  refine Sd.of (fun x h => ?_) bo (fun xs => by cases xs <;> simp [mtL]) (fun o => by cases o <;> simp [mtP]) (fun tg x => by cases x <;> simp [mtI]) (fun x => by cases x <;> simp [mtG]) (fun xs => by cases xs <;> simp [mtGs])
  cases x <;> first | (simp [mt] at h; done) | skip
  rename_i op vs p
  refine ⟨?_, (bo op vs p h).pt⟩
  rcases vs with _ | ⟨x, _ | ⟨y, vs⟩⟩ <;> cases op <;> first | (simp [mt] at h; done) | skip
  simp only [mt, Bool.and_eq_true] at h
  exact Lw.PE.imp (pe_or (A.ev x h.1).1 (B.ev _ h.2).1) fun σ H Q q => i_or q
theorem sd_not (O : XOk g cs cl fl N fp sc X) {a : E} (A : Sd g cs cl fl a N fp sc X) : Sd g cs cl fl (.not a) N fp sc X := by
  refine Sd.of (fun x h => ?_) (fun op vs p h => by simp [mt] at h) (fun xs => by cases xs <;> simp [mtL]) (fun o => by cases o <;> simp [mtP]) (fun tg x => by cases x <;> simp [mtI]) (fun x => by cases x <;> simp [mtG]) (fun xs => by cases xs <;> simp [mtGs])
  cases x <;> first | (simp [mt] at h; done) | skip
  rename_i o y pos
  cases o <;> first | (simp [mt] at h; done) | skip
  simp only [mt] at h
  exact ⟨Lw.PE.imp (pe_not (A.ev y h).1) fun σ H Q q => i_not q, Lw.PT.imp (pt_not (A.ev y h).2) fun σ H Q q => t_not q⟩
theorem sd_ite (O : XOk g cs cl fl N fp sc X) {c a b : E} (C : Sd g cs cl fl c N fp sc X) (A : Sd g cs cl fl a N fp sc X) (B : Sd g cs cl fl b N fp sc X) : Sd g cs cl fl (.ite c a b) N fp sc X := by
  refine Sd.of (fun x h => ?_) (fun op vs p h => by simp [mt] at h) (fun xs => by cases xs <;> simp [mtL]) (fun o => by cases o <;> simp [mtP]) (fun tg x => by cases x <;> simp [mtI]) (fun x => by cases x <;> simp [mtG]) (fun xs => by cases xs <;> simp [mtGs])
  cases x <;> first | (simp [mt] at h; done) | skip
  rename_i x y z pos
  simp only [mt, Bool.and_eq_true] at h
  obtain ⟨⟨h1, h2⟩, h3⟩ := h
  exact ⟨Lw.PE.imp (pe_ifExp (C.ev x h1).2 (A.ev y h2).1 (B.ev z h3).1) fun σ H Q q => i_ite q, Lw.PT.imp (pt_ifE (C.ev x h1).2 (A.ev y h2).2 (B.ev z h3).2) fun σ H Q q => t_ite q⟩
theorem assign_one {x : Expr} {xs : List Expr} {env : Env} (h : isStar x = false) : assignEach (x :: xs) env = (false, assign x env) :: assignEach xs env := by
  cases x <;> first | rfl | cases h
theorem starG {e : E} {x : Expr} (h : mtG g N fp sc e x = true) : isStar x = false := by
  cases x <;> first | rfl | (cases e <;> simp [mtG] at h)
theorem assign_plain : ∀ {es : E} {xs : List Expr} (h : mtGs g N fp sc es xs = true) (env : Env), (assignEach xs env).length = xs.length ∧ (assignEach xs env).findIdx? (·.1) = none
  | es, [], h, env => ⟨rfl, rfl⟩
  | .nil, x :: xs, h, env => by simp [mtGs] at h
  | .cons e es, x :: xs, h, env => by
    simp only [mtGs, Bool.and_eq_true] at h
    rw [assign_one (starG h.1)]
    obtain ⟨h1, h2⟩ := assign_plain h.2 env
    refine ⟨by rw [List.length_cons, List.length_cons, h1], ?_⟩
    rw [List.findIdx?_cons, h2]
    rfl
theorem sd_tup (O : XOk g cs cl fl N fp sc X) {es : E} (A : Sd g cs cl fl es N fp sc X) : Sd g cs cl fl (.tup es) N fp sc X where
  ev := fun x h => by
    cases x <;> first | (simp [mt] at h; done) | skip
    rename_i xs k pos
    simp only [mt] at h
    have p : PE X (.Tuple xs k pos) (rdE cs cl fl X.K (.tup es)) := Lw.PE.imp (pe_tup (A.ls xs h).1) fun σ H Q q => i_tup q
    exact ⟨p, pt_plain p fun _ => rfl⟩
  bo := fun op vs p h => by simp [mt] at h
  ls := fun xs h => by cases xs <;> simp [mtL] at h
  pt := fun o h => by cases o <;> simp [mtP] at h
  it := fun tg x h => by cases x <;> simp [mtI] at h
  tg := fun x h => by
    cases x <;> first | (simp [mtG] at h; done) | skip
    rename_i xs k pos
    simp only [mtG] at h
    exact Lw.PG.imp (pg_tupA O.calm (A.ts xs h) (assign_plain h _).1 (assign_plain h _).2) fun v σ H Q q => g_tup (fun xs s G => asgs_len h) q
  ts := fun xs h => by cases xs <;> simp [mtGs] at h
theorem sd_lst (O : XOk g cs cl fl N fp sc X) {es : E} (A : Sd g cs cl fl es N fp sc X) : Sd g cs cl fl (.lst es) N fp sc X := by
  refine Sd.of (fun x h => ?_) (fun op vs p h => by simp [mt] at h) (fun xs => by cases xs <;> simp [mtL]) (fun o => by cases o <;> simp [mtP]) (fun tg x => by cases x <;> simp [mtI]) (fun x => by cases x <;> simp [mtG]) (fun xs => by cases xs <;> simp [mtGs])
  cases x <;> first | (simp [mt] at h; done) | skip
  rename_i xs pos
  simp only [mt] at h
  have p : PE X (.List xs pos) (rdE cs cl fl X.K (.lst es)) := Lw.PE.imp (pe_lst (A.ls xs h).1) fun σ H Q q => i_lst q
  exact ⟨p, pt_plain p fun _ => rfl⟩
theorem pset_or {t t' : TSet} (h : PSet X t) (h' : PSet X t') : PSet X (fun o i v H Q => t o i v H Q ∨ t' o i v H Q) := by
  intro pins s σ H o i v ov iv u Q I ro ri rv q
  rcases q with q | q
  · exact h pins s σ H o i v ov iv u Q I ro ri rv q
  · exact h' pins s σ H o i v ov iv u Q I ro ri rv q
theorem sd_dsp (O : XOk g cs cl fl N fp sc X) {es : E} : Sd g cs cl fl (.dsp es) N fp sc X := by
  refine Sd.of (fun x h => ?_) (fun op vs p h => by simp [mt] at h) (fun xs => by cases xs <;> simp [mtL]) (fun o => by cases o <;> simp [mtP]) (fun tg x => by cases x <;> simp [mtI]) (fun x => by cases x <;> simp [mtG]) (fun xs => by cases xs <;> simp [mtGs])
  cases x <;> first | (simp [mt] at h; done) | skip
  rename_i ks vs pos
  cases es <;> cases ks <;> cases vs <;> first | (simp [mt] at h; done) | skip
  have p : PE X (.Dict [] [] pos) (rdE cs cl fl X.K (.dsp .nil)) := Lw.PE.imp pe_dnewK fun σ H Q q => i_dsp q
  exact ⟨p, pt_plain p fun _ => rfl⟩
theorem sd_repL (O : XOk g cs cl fl N fp sc X) {es : E} (A : Sd g cs cl fl es N fp sc X) : Sd g cs cl fl (.repL es) N fp sc X := by
  refine Sd.of (fun x h => ?_) (fun op vs p h => by simp [mt] at h) (fun xs => by cases xs <;> simp [mtL]) (fun o => by cases o <;> simp [mtP]) (fun tg x => by cases x <;> simp [mtI]) (fun x => by cases x <;> simp [mtG]) (fun xs => by cases xs <;> simp [mtGs])
  cases x <;> first | (simp [mt] at h; done) | skip
  rename_i x xs ks pos
  cases x <;> cases ks <;> first | (simp [mt] at h; done) | skip
  rcases xs with _ | ⟨y, _ | ⟨y2, ys⟩⟩ <;> first | (simp [mt] at h; done) | (cases y <;> simp [mt] at h <;> done) | skip
  cases y <;> first | (simp [mt] at h; done) | skip
  rename_i x p xs lp
  simp only [mt, Bool.and_eq_true, decide_eq_true_eq] at h
  obtain ⟨⟨h1, h2⟩, h4⟩ := h
  have q : PE X (.Call (.Name x p) [.List xs lp] [] pos) (rdE cs cl fl X.K (.repL es)) := by
    subst h1
    obtain ⟨g1, g2, g3⟩ := goodN_of (bi_good .rep)
    exact Lw.PE.imp (pe_callB (call_repL O.gd (by have := O.un; omega)) (gl_of O h2) (O.bn _ (bi_known .rep)) (by decide +kernel) (pa_cons (pe_lstN (A.ls xs h4).1) pa_nil) g3 g1) fun σ H Q q => i_repL q
  exact ⟨q, pt_plain q fun _ => rfl⟩
theorem sd_idx (O : XOk g cs cl fl N fp sc X) {a b : E} (A : Sd g cs cl fl a N fp sc X) (B : Sd g cs cl fl b N fp sc X) : Sd g cs cl fl (.idx a b) N fp sc X where
  ev := fun x h => by
    cases x <;> first | (simp [mt] at h; done) | skip
    rename_i x y pos
    simp only [mt, Bool.and_eq_true] at h
    have p : PE X (.Subscript x y pos) (rdE cs cl fl X.K (.idx a b)) := Lw.PE.imp (pe_ix (ix_all (by have := O.un; omega)) (A.ev x h.1).1 (B.ev y h.2).1 (plain_ix h.2)) fun σ H Q q => i_idx q
    exact ⟨p, pt_plain p fun _ => rfl⟩
  bo := fun op vs p h => by simp [mt] at h
  ls := fun xs h => by cases xs <;> simp [mtL] at h
  pt := fun o h => by cases o <;> simp [mtP] at h
  it := fun tg x h => by cases x <;> simp [mtI] at h
  tg := fun x h => by
    cases x <;> first | (simp [mtG] at h; done) | skip
    rename_i x y pos
    simp only [mtG, Bool.and_eq_true] at h
    refine Lw.PG.imp (pg_sub (A.ev x h.1).1 (B.ev y h.2).1 (pset_or set_list (set_dict (by have := O.un; omega))) fun v => ?_) fun v σ H Q q => g_idx q
    have := no_slice h.2
    cases y <;> first | rfl | cases this
  ts := fun xs h => by cases xs <;> simp [mtGs] at h
theorem sd_sl (O : XOk g cs cl fl N fp sc X) {a lo hi : E} (A : Sd g cs cl fl a N fp sc X) (B : Sd g cs cl fl lo N fp sc X) (C : Sd g cs cl fl hi N fp sc X) : Sd g cs cl fl (.sl a lo hi) N fp sc X := by
  refine Sd.of (fun x h => ?_) (fun op vs p h => by simp [mt] at h) (fun xs => by cases xs <;> simp [mtL]) (fun o => by cases o <;> simp [mtP]) (fun tg x => by cases x <;> simp [mtI]) (fun x => by cases x <;> simp [mtG]) (fun xs => by cases xs <;> simp [mtGs])
  cases x <;> first | (simp [mt] at h; done) | skip
  rename_i x y pos
  cases y <;> first | (simp [mt] at h; done) | skip
  rename_i l u st p2
  cases st <;> first | (simp [mt] at h; done) | skip
  simp only [mt, Bool.and_eq_true] at h
  obtain ⟨⟨h1, h2⟩, h3⟩ := h
  have p : PE X (.Subscript x (.Slice l u none p2) pos) (rdE cs cl fl X.K (.sl a lo hi)) := Lw.PE.imp (pe_slice sl_any (A.ev x h1).1 (B.pt l h2) (C.pt u h3)) fun σ H Q q => i_sl2 q
  exact ⟨p, pt_plain p fun _ => rfl⟩
theorem sd_rev (O : XOk g cs cl fl N fp sc X) {a : E} (A : Sd g cs cl fl a N fp sc X) : Sd g cs cl fl (.rev a) N fp sc X := by
  refine Sd.of (fun x h => ?_) (fun op vs p h => by simp [mt] at h) (fun xs => by cases xs <;> simp [mtL]) (fun o => by cases o <;> simp [mtP]) (fun tg x => by cases x <;> simp [mtI]) (fun x => by cases x <;> simp [mtG]) (fun xs => by cases xs <;> simp [mtGs])
  have h2 : ∃ (y : Expr) (k : Nat) (p1 p2 p3 pos : Pos), x = .Subscript y (.Slice none none (some (.UnaryOp .USub (.Constant (.int 1) k p1) p2)) p3) pos ∧ mt g N fp sc a y = true := by
    unfold mt at h
    split at h <;> first | (cases h; done) | skip
    all_goals first | (exfalso; simp at *; done) | skip
    rename_i y kk k p1 p2 p3 pos e
    simp only [Bool.and_eq_true, decide_eq_true_eq] at h
    obtain ⟨e1, h2⟩ := h
    cases e
    subst e1
    exact ⟨_, _, _, _, _, _, rfl, h2⟩
  obtain ⟨y, k, p1, p2, p3, pos, rfl, h2⟩ := h2
  have p : PE X (.Subscript y (.Slice none none (some (.UnaryOp .USub (.Constant (.int 1) k p1) p2)) p3) pos) (rdE cs cl fl X.K (.rev a)) := Lw.PE.imp (pe_revA (A.ev _ h2).1) fun σ H Q q => i_rev q
  exact ⟨p, pt_plain p fun _ => rfl⟩
theorem sd_stp (O : XOk g cs cl fl N fp sc X) {a : E} {n : Nat} (A : Sd g cs cl fl a N fp sc X) : Sd g cs cl fl (.stp a n) N fp sc X := by
  refine Sd.of (fun x h => ?_) (fun op vs p h => by simp [mt] at h) (fun xs => by cases xs <;> simp [mtL]) (fun o => by cases o <;> simp [mtP]) (fun tg x => by cases x <;> simp [mtI]) (fun x => by cases x <;> simp [mtG]) (fun xs => by cases xs <;> simp [mtGs])
  have h2 : ∃ (y : Expr) (kk : Nat) (p1 p3 pos : Pos), x = .Subscript y (.Slice none none (some (.Constant (.int (n : Int)) kk p1)) p3) pos ∧ 0 < n ∧ mt g N fp sc a y = true := by
    unfold mt at h
    split at h <;> first | (cases h; done) | skip
    all_goals first | (exfalso; simp at *; done) | skip
    rename_i y j kk p1 p3 pos e
    simp only [Bool.and_eq_true, decide_eq_true_eq] at h
    obtain ⟨⟨e1, e2⟩, h2⟩ := h
    cases e
    subst e1
    exact ⟨_, _, _, _, _, rfl, e2, h2⟩
  obtain ⟨y, kk, p1, p3, pos, rfl, hn, h2⟩ := h2
  have p : PE X (.Subscript y (.Slice none none (some (.Constant (.int (n : Int)) kk p1)) p3) pos) (rdE cs cl fl X.K (.stp a n)) := Lw.PE.imp (pe_stp hn (A.ev _ h2).1) fun σ H Q q => i_stp q
  exact ⟨p, pt_plain p fun _ => rfl⟩
theorem sd_call (O : XOk g cs cl fl N fp sc X) {f : Nat} {es : E} (A : Sd g cs cl fl es N fp sc X) : Sd g cs cl fl (.call f es) N fp sc X := by
  refine Sd.of (fun x h => ?_) (fun op vs p h => by simp [mt] at h) (fun xs => by cases xs <;> simp [mtL]) (fun o => by cases o <;> simp [mtP]) (fun tg x => by cases x <;> simp [mtI]) (fun x => by cases x <;> simp [mtG]) (fun xs => by cases xs <;> simp [mtGs])
  cases x <;> first | (simp [mt] at h; done) | skip
  rename_i x xs ks pos
  cases x <;> cases ks <;> first | (simp [mt] at h; done) | skip
  rename_i x p
  simp only [mt, Bool.and_eq_true, decide_eq_true_eq] at h
  obtain ⟨⟨⟨h1, h2⟩, h3⟩, h4⟩ := h
  obtain ⟨g1, g2, g3⟩ := goodN_of h3
  obtain ⟨fa, fd, ps, k, m1, m2, F, hr, hb, hn⟩ := O.fns f x h1
  have q : PE X (.Call (.Name x p) xs [] pos) (rdE cs cl fl X.K (.call f es)) := by
    cases xs with
    | nil =>
      have e := mtL_nil h4
      subst e
      exact Lw.PE.imp (pe_callV0 F hr O.gd hb (gl_of O h2) m1 m2 g1) fun σ H Q q => by
        have := i_call hn q
        obtain ⟨Z, ρ, st, tm, I, F⟩ := this
        exact a_nil (ps := fl f) ⟨Z, ρ, st, tm, I, F⟩
    | cons y ys =>
      have h5 := h4
      cases es <;> first | (simp [mtL] at h5; done) | skip
      simp only [mtL, Bool.and_eq_true] at h5
      exact Lw.PE.imp (pe_callV F hr O.gd hb (gl_of O h2) m1 m2 ((A.ls _ h4).2.2 (fl f)) g1 (star_one (no_star h5.1)) (stars_of h5.2 _ _).1) fun σ H Q q => i_call hn q
  exact ⟨q, pt_plain q fun _ => rfl⟩
theorem sd_blt (O : XOk g cs cl fl N fp sc X) {b : Bi} {es : E} (A : Sd g cs cl fl es N fp sc X) : Sd g cs cl fl (.blt b es) N fp sc X := by
  refine Sd.of (fun x h => ?_) (fun op vs p h => by simp [mt] at h) (fun xs => by cases xs <;> simp [mtL]) (fun o => by cases o <;> simp [mtP]) (fun tg x => by cases x <;> simp [mtI]) (fun x => by cases x <;> simp [mtG]) (fun xs => by cases xs <;> simp [mtGs])
  cases x <;> first | (simp [mt] at h; done) | skip
  rename_i x xs ks pos
  cases x <;> cases ks <;> cases xs <;> first | (simp [mt] at h; done) | skip
  rename_i x p y ys
  simp only [mt, Bool.and_eq_true, decide_eq_true_eq] at h
  obtain ⟨⟨h1, h2⟩, h4⟩ := h
  obtain ⟨g1, g2, g3⟩ := goodN_of (bi_good b)
  have h5 := h4
  cases es <;> first | (simp [mtL] at h5; done) | skip
  rename_i e es
  simp only [mtL, Bool.and_eq_true] at h5
  have q : PE X (.Call (.Name x p) (y :: ys) [] pos) (rdE cs cl fl X.K (.blt b (.cons e es))) := by
    subst h1
    have hm := O.bn _ (bi_known b)
    rcases bi_call O b with ⟨id, e, c⟩ | ⟨T, e, c⟩
    · exact Lw.PE.imp (pe_callB c (gl_of O h2) hm e (A.ls _ h4).2.1 g3 g1 (star_one (no_star h5.1)) (stars_of h5.2 _ _).1) fun σ H Q q => i_blt q
    · exact Lw.PE.imp (pe_callTy c (gl_of O h2) hm e (A.ls _ h4).2.1 g3 g1 (star_one (no_star h5.1)) (stars_of h5.2 _ _).1) fun σ H Q q => i_blt q
  exact ⟨q, pt_plain q fun _ => rfl⟩
end
end Lw

set_option Elab.async false
set_option linter.all false
set_option maxRecDepth 100000
set_option maxHeartbeats 8000000
namespace Lw
open PySem L2 PySem.Spec PyProof.Rows
section
variable {g : Gm} {cs : Nat → Option Addr} {cl : Cl} {fl : Nat → List Bool} {N : List Str} {fp : Str → Bool} {sc : Scope} {X : Cx}
theorem v_one {K : Fg} {e : E} {σ : L2.St} {H : Hp} {Q : VK} (h : rdE cs cl fl K e σ H Q) : rdE cs cl fl K e σ H Q := h
theorem sd_app (O : XOk g cs cl fl N fp sc X) {o e : E} (A : Sd g cs cl fl o N fp sc X) (B : Sd g cs cl fl e N fp sc X) : Sd g cs cl fl (.app o e) N fp sc X := by
  refine Sd.of (fun x h => ?_) (fun op vs p h => by simp [mt] at h) (fun xs => by cases xs <;> simp [mtL]) (fun o => by cases o <;> simp [mtP]) (fun tg x => by cases x <;> simp [mtI]) (fun x => by cases x <;> simp [mtG]) (fun xs => by cases xs <;> simp [mtGs])
  cases x <;> first | (simp [mt] at h; done) | skip
  rename_i x xs ks pos
  cases x <;> cases ks <;> (try rcases xs with _ | ⟨y, _ | ⟨y2, xs⟩⟩) <;> first | (simp [mt] at h; done) | skip
  rename_i x m ap
  simp only [mt, Bool.and_eq_true, decide_eq_true_eq, Bool.not_eq_true'] at h
  obtain ⟨⟨⟨⟨h1, h2⟩, h3⟩, h4⟩, h5⟩ := h
  subst h1
  have ns := no_star h5
  have l1 : mtL g N fp sc (.cons e .nil) [y] = true := by simp only [mtL, Bool.and_eq_true]; exact ⟨h5, trivial⟩
  have q : PE X (.Call (.Attribute x "append" ap) [y] [] pos) (rdE cs cl fl X.K (.app o e)) :=
    Lw.PE.imp (pe_bm PySem.F.plainAttrs_list PySem.F.slot_list_append PySem.F.type_list_append mt_append (A.ev x h4).1 (pa_cons (B.ev y h5).1 pa_nil (star_one ns)) (attr_base h2) (few_of l1 (by show 1 < 30; decide) _ _) h3 (star_one ns) rfl) fun σ H Q q => i_app q
  exact ⟨q, pt_plain q fun _ => rfl⟩
theorem sd_mth (O : XOk g cs cl fl N fp sc X) {m : Mi} {o es : E} (A : Sd g cs cl fl o N fp sc X) (B : Sd g cs cl fl es N fp sc X) : Sd g cs cl fl (.mth m o es) N fp sc X := by
  refine Sd.of (fun x h => ?_) (fun op vs p h => by simp [mt] at h) (fun xs => by cases xs <;> simp [mtL]) (fun o => by cases o <;> simp [mtP]) (fun tg x => by cases x <;> simp [mtI]) (fun x => by cases x <;> simp [mtG]) (fun xs => by cases xs <;> simp [mtGs])
  cases x <;> first | (simp [mt] at h; done) | skip
  rename_i x xs ks pos
  cases x <;> cases ks <;> first | (simp [mt] at h; done) | skip
  rename_i x n ap
  simp only [mt, Bool.and_eq_true, decide_eq_true_eq, Bool.not_eq_true'] at h
  obtain ⟨⟨⟨⟨⟨h1, h2⟩, h3⟩, h6⟩, h4⟩, h5⟩ := h
  subst h1
  have hb := attr_base (m := Str.ofString (miName m)) (env := X.env) h2
  have q : PE X (.Call (.Attribute x (Str.ofString (miName m)) ap) xs [] pos) (rdE cs cl fl X.K (.mth m o es)) := by
    rcases xs with _ | ⟨y, _ | ⟨y2, xs⟩⟩
    · cases m <;> first | (simp [miArity] at h6; done) | skip
      have e := mtL_nil h5
      subst e
      exact Lw.PE.imp (pe_bm0 PySem.F.plainAttrs_list PySem.F.slot_list_pop PySem.F.type_list_pop mt_pop (A.ev x h4).1 hb h3) fun σ H Q q => i_pop q
    · obtain ⟨e, ee⟩ := mtL_one h5
      subst ee
      have hy : mt g N fp sc e y = true := by simp only [mtL, Bool.and_eq_true] at h5; exact h5.1
      have ns := no_star hy
      cases m <;> first | (simp [miArity] at h6; done) | skip
      · exact Lw.PE.imp (pe_bm PySem.F.plainAttrs_list PySem.F.slot_list_pop PySem.F.type_list_pop mt_popAt (A.ev x h4).1 (B.ls _ h5).2.1 hb (few_of h5 (by show 1 < 30; decide) _ _) h3 (star_one ns) rfl) fun σ H Q q => i_popAt q
      · exact Lw.PE.imp (pe_bm PySem.F.plainAttrs_list PySem.F.slot_list_extend PySem.F.type_list_extend (mt_extend2 O.calm) (A.ev x h4).1 (B.ls _ h5).2.1 hb (few_of h5 (by show 1 < 30; decide) _ _) h3 (star_one ns) rfl) fun σ H Q q => i_extend q
      · exact Lw.PE.imp (pe_bm PySem.F.plainAttrs_str PySem.F.slot_str_join PySem.F.type_str_join mt_join (A.ev x h4).1 (B.ls _ h5).2.1 hb (few_of h5 (by show 1 < 30; decide) _ _) h3 (star_one ns) rfl) fun σ H Q q => i_join q
      · exact Lw.PE.imp (pe_bmD PySem.F.slot_dict_get PySem.F.type_dict_get (mt_get (by have := O.un; omega)) (A.ev x h4).1 (B.ls _ h5).2.1 hb (few_of h5 (by show 1 < 30; decide) _ _) h3 (star_one ns) rfl) fun σ H Q q => i_get q
      · exact Lw.PE.imp (pe_bm PySem.F.plainAttrs_list PySem.F.slot_list_remove PySem.F.type_list_remove mt_removeS (A.ev x h4).1 (B.ls _ h5).2.1 hb (few_of h5 (by show 1 < 30; decide) _ _) h3 (star_one ns) rfl) fun σ H Q q => i_remove q
    · cases m <;> first | (cases xs <;> simp [miArity] at h6; done) | skip
      have h5' := h5
      cases es <;> first | (simp [mtL] at h5'; done) | skip
      simp only [mtL, Bool.and_eq_true] at h5'
      cases xs <;> first | (simp [miArity] at h6; done) | skip
      exact Lw.PE.imp (pe_bmD PySem.F.slot_dict_get PySem.F.type_dict_get (mt_get (by have := O.un; omega)) (A.ev x h4).1 (B.ls _ h5).2.1 hb (few_of h5 (by show 2 < 30; decide) _ _) h3 (star_one (no_star h5'.1)) (stars_of h5'.2 _ _).1) fun σ H Q q => i_get q
  exact ⟨q, pt_plain q fun _ => rfl⟩
theorem own_map (N : List Str) (own : List Nat) : (own.map fun i => (N.getD i "", i)).map (·.2) = own := by
  rw [List.map_map]; exact List.map_id _
/-- what a comprehension asks, taken apart -/
theorem comp_parts {elt t it cond : E} {own : List Nat} {x : Expr} (h : mt g N fp sc (.comp elt t it cond own) x = true) : ∃ elx y z ifs scope pos, x = .ListComp elx [⟨y, z, ifs, 0⟩] scope pos ∧
    blkC N sc scope (own.map fun i => (N.getD i "", i)) = true ∧ own.Nodup ∧ (∀ i ∈ own, i < N.length) ∧ (∀ k ∈ tgv t, k ∈ own) ∧ isSet z = false ∧ mtI g N fp sc y it z = true ∧ mtG g N (fun n => scope.names.lookup n == some .cell) (relS scope sc) t y = true ∧
    mt g N (fun n => scope.names.lookup n == some .cell) (relS scope sc) elt elx = true ∧
    (ifs = [] ∧ cond = .con (.bl true) ∨ ∃ c, ifs = [c] ∧ mt g N (fun n => scope.names.lookup n == some .cell) (relS scope sc) cond c = true) := by
  cases x <;> first | (simp [mt] at h; done) | skip
  rename_i elx gens scope pos
  rcases gens with _ | ⟨⟨y, z, ifs, n⟩, _ | ⟨g2, gens⟩⟩ <;> first | (simp [mt] at h; done) | skip
  have hn : n = 0 := by
    by_cases q : n = 0
    · exact q
    · exfalso
      revert h
      simp [mt, q]
  subst hn
  unfold mt at h
  simp only [Bool.and_eq_true, decide_eq_true_eq, Bool.not_eq_true', List.all_eq_true] at h
  obtain ⟨⟨⟨⟨⟨⟨⟨⟨h1, h2⟩, h3⟩, h4⟩, h5⟩, h6⟩, h7⟩, h8⟩, h9⟩ := h
  refine ⟨elx, y, z, ifs, scope, pos, rfl, h1, h2, h3, fun k hk => List.contains_iff_mem.mp (h4 k hk), h5, h6, h7, h8, ?_⟩
  rcases ifs with _ | ⟨c, _ | ⟨c2, ifs⟩⟩
  · left
    refine ⟨rfl, ?_⟩
    dsimp only at h9
    split at h9
    · rfl
    · cases h9
  · exact .inr ⟨c, rfl, h9⟩
  · cases h9
section
variable {elt t it cond : E} {own : List Nat}
/-- the pieces of a comprehension in its block -/
structure Blk (g : Gm) (cs : Nat → Option Addr) (cl : Cl) (fl : Nat → List Bool) (N : List Str) (sc : Scope) (X : Cx) (elt t cond : E) (elx y : Expr) (ifs : List Expr) (scope : Scope) : Prop where
  pg : ∀ (s : Shared) (H : Hp) (C : Addr) (clo : List (Str × Addr)) (fp : List Addr), PG (X.blk s H scope (compEnvC scope clo C X.env) fp) y (rdG cs cl fl X.K t)
  pt : ∀ (s : Shared) (H : Hp) (C : Addr) (clo : List (Str × Addr)) (fp : List Addr), PTs (X.blk s H scope (compEnvC scope clo C X.env) fp) ifs (rdT cs cl fl X.K cond)
  pe : ∀ (s : Shared) (H : Hp) (C : Addr) (clo : List (Str × Addr)) (fp : List Addr), PE (X.blk s H scope (compEnvC scope clo C X.env) fp) elx (rdE cs cl fl X.K elt)
theorem blk_of (O : XOk g cs cl fl N fp sc X) (A : ∀ fp sc X, XOk g cs cl fl N fp sc X → Sd g cs cl fl elt N fp sc X) (B : ∀ fp sc X, XOk g cs cl fl N fp sc X → Sd g cs cl fl t N fp sc X) (C : ∀ fp sc X, XOk g cs cl fl N fp sc X → Sd g cs cl fl cond N fp sc X)
    {elx y : Expr} {ifs : List Expr} {scope : Scope} (h7 : mtG g N (fun n => scope.names.lookup n == some .cell) (relS scope sc) t y = true) (h8 : mt g N (fun n => scope.names.lookup n == some .cell) (relS scope sc) elt elx = true)
    (h9 : ifs = [] ∧ cond = .con (.bl true) ∨ ∃ c, ifs = [c] ∧ mt g N (fun n => scope.names.lookup n == some .cell) (relS scope sc) cond c = true) : Blk g cs cl fl N sc X elt t cond elx y ifs scope where
  pg := fun s H C clo f => (B _ _ _ (O.blk s H scope C clo f)).tg y h7
  pt := fun s H C' clo f => by
    rcases h9 with ⟨e1, e2⟩ | ⟨c, e1, h⟩
    · subst e1; subst e2
      exact Lw.PTs.imp pts_nil fun σ H Q q => t_true (X := X) q
    · subst e1
      exact pts_one ((C _ _ _ (O.blk s H scope C' clo f)).ev c h).2
  pe := fun s H C clo f => ((A _ _ _ (O.blk s H scope C clo f)).ev elx h8).1
theorem sd_comp (O : XOk g cs cl fl N fp sc X) (A : ∀ fp sc X, XOk g cs cl fl N fp sc X → Sd g cs cl fl elt N fp sc X) (B : ∀ fp sc X, XOk g cs cl fl N fp sc X → Sd g cs cl fl t N fp sc X) (C : ∀ fp sc X, XOk g cs cl fl N fp sc X → Sd g cs cl fl cond N fp sc X)
    (I : Sd g cs cl fl it N fp sc X) : Sd g cs cl fl (.comp elt t it cond own) N fp sc X := by
  refine Sd.of (fun x h => ?_) (fun op vs p h => by simp [mt] at h) (fun xs => by cases xs <;> simp [mtL]) (fun o => by cases o <;> simp [mtP]) (fun tg x => by cases x <;> simp [mtI]) (fun x => by cases x <;> simp [mtG]) (fun xs => by cases xs <;> simp [mtGs])
  obtain ⟨elx, y, z, ifs, scope, pos, rfl, h1, h2, h3, h4, h5, h6, h7, h8, h9⟩ := comp_parts h
  have K := blk_of O A B C h7 h8 h9
  have q : PE X (.ListComp elx [⟨y, z, ifs, 0⟩] scope pos) (rdE cs cl fl X.K (.comp elt t it cond own)) := by
    have p := pe_lc (pos := pos) O.calm (by rw [O.hN]; exact O.nd) (I.it y z h6) (blkOk_by (N := X.N) (sc := X.env.scope) (by rw [O.hN, O.sc]; exact h1)) K.pg K.pt K.pe (fun x => folded_of h5 x)
    refine ⟨fun pins s σ H Q J q => p.run pins s σ H Q J ?_⟩
    rw [own_map]
    exact i_comp h2 (fun i hi => by rw [J.len, O.hN]; exact h3 i hi) h4 q
  exact ⟨q, pt_plain q fun _ => rfl⟩
end
theorem sd_nil (O : XOk g cs cl fl N fp sc X) : Sd g cs cl fl .nil N fp sc X where
  ev := fun x h => by cases x <;> simp [mt] at h
  bo := fun op vs p h => by simp [mt] at h
  ls := fun xs h => by
    cases xs <;> first | (simp [mtL] at h; done) | skip
    exact ⟨Lw.PA.imp pa_nil fun σ H Q q => v_nil q, Lw.PA.imp pa_nil fun σ H Q q => h_nil q, fun ps => Lw.PA.imp pa_nil fun σ H Q q => a_nil q⟩
  pt := fun o h => by
    cases o <;> first | (simp [mtP] at h; done) | skip
    exact Lw.PO.imp po_none fun σ H Q q => p_nil q
  it := fun tg x h => by cases x <;> simp [mtI] at h
  tg := fun x h => by cases x <;> simp [mtG] at h
  ts := fun xs h => by
    cases xs <;> first | (simp [mtGs] at h; done) | skip
    exact Lw.PGs.imp pgs_nil fun v σ H Q q => gs_nil q
theorem sd_cons (O : XOk g cs cl fl N fp sc X) {e es : E} (A : Sd g cs cl fl e N fp sc X) (B : Sd g cs cl fl es N fp sc X) : Sd g cs cl fl (.cons e es) N fp sc X where
  ev := fun x h => by cases x <;> simp [mt] at h
  bo := fun op vs p h => by simp [mt] at h
  ls := fun xs h => by
    cases xs <;> first | (simp [mtL] at h; done) | skip
    simp only [mtL, Bool.and_eq_true] at h
    have a := (A.ev _ h.1).1
    obtain ⟨b1, b2, b3⟩ := B.ls _ h.2
    have st := star_one (env := X.env) (xs := ‹_›) (no_star h.1)
    exact ⟨Lw.PA.imp (pa_cons a b1 st) fun σ H Q q => v_cons q, Lw.PA.imp (pa_cons a b2 st) fun σ H Q q => h_cons q, fun ps => Lw.PA.imp (pa_cons a (b3 ps.tail) st) fun σ H Q q => a_cons q⟩
  pt := fun o h => by cases o <;> simp [mtP] at h
  it := fun tg x h => by cases x <;> simp [mtI] at h
  tg := fun x h => by cases x <;> simp [mtG] at h
  ts := fun xs h => by
    cases xs <;> first | (simp [mtGs] at h; done) | skip
    simp only [mtGs, Bool.and_eq_true] at h
    exact Lw.PGs.imp (pgs_cons (A.tg _ h.1) (B.ts _ h.2) (by rw [assign_one (starG h.1)]; rfl)) fun v σ H Q q => gs_cons q
theorem sd_walk {e : E} (it : ∀ tg x, mtI g N fp sc tg e x = true → PI X tg x (rdI cs cl fl X.K e)) (h0 : ∀ x, mt g N fp sc e x = false) (h1 : ∀ xs, mtL g N fp sc e xs = false) (h2 : ∀ o, mtP g N fp sc e o = false) (h4 : ∀ x, mtG g N fp sc e x = false) (h5 : ∀ xs, mtGs g N fp sc e xs = false) : Sd g cs cl fl e N fp sc X where
  ev := fun x h => by rw [h0] at h; cases h
  bo := fun op vs p h => by rw [h0] at h; cases h
  ls := fun xs h => by rw [h1] at h; cases h
  pt := fun o h => by rw [h2] at h; cases h
  it := it
  tg := fun x h => by rw [h4] at h; cases h
  ts := fun x h => by rw [h5] at h; cases h
theorem sd_seq (O : XOk g cs cl fl N fp sc X) {a : E} (A : Sd g cs cl fl a N fp sc X) : Sd g cs cl fl (.seq a) N fp sc X := by
  refine sd_walk (fun tg x h => ?_) (fun x => by cases x <;> simp [mt]) (fun xs => by cases xs <;> simp [mtL]) (fun o => by cases o <;> simp [mtP]) (fun x => by cases x <;> simp [mtG]) (fun xs => by cases xs <;> simp [mtGs])
  simp only [mtI] at h
  exact r_seq (A.ev x h).1
theorem rng_nm : "range" ∈ allNames := by decide
theorem enm_nm : "enumerate" ∈ allNames := by decide
theorem sd_rng1 (O : XOk g cs cl fl N fp sc X) {a : E} (A : Sd g cs cl fl a N fp sc X) : Sd g cs cl fl (.rng1 a) N fp sc X := by
  refine sd_walk (fun tg x h => ?_) (fun x => by cases x <;> simp [mt]) (fun xs => by cases xs <;> simp [mtL]) (fun o => by cases o <;> simp [mtP]) (fun x => by cases x <;> simp [mtG]) (fun xs => by cases xs <;> simp [mtGs])
  cases x <;> first | (simp [mtI] at h; done) | skip
  rename_i x xs ks pos
  cases x <;> cases ks <;> (try rcases xs with _ | ⟨y, _ | ⟨y2, xs⟩⟩) <;> first | (simp [mtI] at h; done) | skip
  simp only [mtI, Bool.and_eq_true, decide_eq_true_eq] at h
  obtain ⟨⟨h1, h2⟩, h3⟩ := h
  subst h1
  have st := star_one (env := X.env) (xs := []) (no_star h3)
  exact Lw.PI.imp (pi_range1 (gl_of O h2) (O.bn _ rng_nm) (Lw.PA.imp (pa_cons (A.ev _ h3).1 pa_nil st) fun σ H Q q => by
    obtain ⟨Z, ρ, s, tm, I, F⟩ := h_cons q
    exact ⟨Z, ρ, s, tm, I, F.mono fun x s F Z' ρ' v H' l p I hx => h_nil (F Z' ρ' v H' l p I hx)⟩) st) fun σ H R q => r_rng1 q
theorem sd_rng2 (O : XOk g cs cl fl N fp sc X) {a b : E} (A : Sd g cs cl fl a N fp sc X) (B : Sd g cs cl fl b N fp sc X) : Sd g cs cl fl (.rng2 a b) N fp sc X := by
  refine sd_walk (fun tg x h => ?_) (fun x => by cases x <;> simp [mt]) (fun xs => by cases xs <;> simp [mtL]) (fun o => by cases o <;> simp [mtP]) (fun x => by cases x <;> simp [mtG]) (fun xs => by cases xs <;> simp [mtGs])
  cases x <;> first | (simp [mtI] at h; done) | skip
  rename_i x xs ks pos
  cases x <;> cases ks <;> (try rcases xs with _ | ⟨y, _ | ⟨y2, _ | ⟨y3, xs⟩⟩⟩) <;> first | (simp [mtI] at h; done) | skip
  simp only [mtI, Bool.and_eq_true, decide_eq_true_eq] at h
  obtain ⟨⟨⟨h1, h2⟩, h3⟩, h4⟩ := h
  subst h1
  have s2 := star_one (env := X.env) (xs := []) (no_star h4)
  have s1 := star_one (env := X.env) (xs := [y2]) (no_star h3)
  rw [s2] at s1
  exact Lw.PI.imp (pi_range2 (gl_of O h2) (O.bn _ rng_nm) (Lw.PA.imp (pa_cons (A.ev _ h3).1 (pa_cons (B.ev _ h4).1 pa_nil s2) (by rw [s1, s2])) fun σ H Q q => by
    obtain ⟨Z, ρ, s, tm, I, F⟩ := h_cons q
    refine ⟨Z, ρ, s, tm, I, F.mono fun x s F Z' ρ' v H' l p I hx => ?_⟩
    obtain ⟨Z, ρ, s, tm, I, F⟩ := h_cons (F Z' ρ' v H' l p I hx)
    exact ⟨Z, ρ, s, tm, I, F.mono fun x s F Z' ρ' v H' l p I hx => h_nil (F Z' ρ' v H' l p I hx)⟩) s1 s2) fun σ H R q => r_rng2 q
theorem sd_enm (O : XOk g cs cl fl N fp sc X) {a : E} (A : Sd g cs cl fl a N fp sc X) : Sd g cs cl fl (.enm a) N fp sc X := by
  refine sd_walk (fun tg x h => ?_) (fun x => by cases x <;> simp [mt]) (fun xs => by cases xs <;> simp [mtL]) (fun o => by cases o <;> simp [mtP]) (fun x => by cases x <;> simp [mtG]) (fun xs => by cases xs <;> simp [mtGs])
  cases x <;> first | (simp [mtI] at h; done) | skip
  rename_i x xs ks pos
  cases x <;> cases ks <;> (try rcases xs with _ | ⟨y, _ | ⟨y2, xs⟩⟩) <;> first | (simp [mtI] at h; done) | skip
  simp only [mtI, Bool.and_eq_true, decide_eq_true_eq] at h
  obtain ⟨⟨⟨h0, h1⟩, h2⟩, h3⟩ := h
  subst h1
  cases tg <;> first | (simp [isTup] at h0; done) | skip
  have st := star_one (env := X.env) (xs := []) (no_star h3)
  exact r_enm (gl_of O h2) (O.bn _ enm_nm) (A.ev _ h3).1 st
theorem zip_nm : "zip" ∈ allNames := by decide
theorem lst_nm : "list" ∈ allNames := by decide
theorem sd_zipE (O : XOk g cs cl fl N fp sc X) {a : E} (A : Sd g cs cl fl a N fp sc X) : Sd g cs cl fl (.zipE a) N fp sc X := by
  refine sd_walk (fun tg x h => ?_) (fun x => by cases x <;> simp [mt]) (fun xs => by cases xs <;> simp [mtL]) (fun o => by cases o <;> simp [mtP]) (fun x => by cases x <;> simp [mtG]) (fun xs => by cases xs <;> simp [mtGs])
  cases x <;> first | (simp [mtI] at h; done) | skip
  rename_i x xs ks pos
  rcases ks with _ | ⟨k, _ | ⟨k2, ks⟩⟩
  · cases x <;> (try rcases xs with _ | ⟨y, _ | ⟨y2, _ | ⟨y3, xs⟩⟩⟩) <;> first | (simp [mtI] at h; done) | skip
    simp only [mtI, Bool.and_eq_true, decide_eq_true_eq] at h
    obtain ⟨⟨⟨h0, h1⟩, h2⟩, h3⟩ := h
    subst h1
    cases tg <;> first | (simp [isTup] at h0; done) | skip
    have pa := (A.ls _ h3).2.2 []
    cases a <;> first | (simp [mtL] at h3; done) | skip
    simp only [mtL, Bool.and_eq_true] at h3
    exact r_zip (gl_of O h2) (O.bn _ zip_nm) pa (star_one (no_star h3.1)) (stars_of h3.2 _ _).1
  · have e : ∃ n p1 y y2 p2 ck p3 , x = .Name n p1 ∧ xs = [y, y2] ∧ k = ⟨some "strict", .Constant (.bool false) ck p2, p3⟩ ∧ isTup tg = true ∧ n = "zip" ∧ glB sc n = true ∧ mtL g N fp sc a [y, y2] = true := by
      unfold mtI at h
      split at h <;> first | (cases h; done) | skip
      all_goals first | (exfalso; simp at *; done) | skip
      rename_i n p1 y y2 kn ck p2 p3 p4 e1 e2
      simp only [Bool.and_eq_true, decide_eq_true_eq] at h
      obtain ⟨⟨⟨⟨h0, h1⟩, h2⟩, h4⟩, h3⟩ := h
      cases e2
      cases e1
      subst h4
      exact ⟨_, _, _, _, _, _, _, rfl, rfl, rfl, h0, h1, h2, h3⟩
    obtain ⟨n, p1, y, y2, p2, ck, p3, rfl, rfl, rfl, h0, h1, h2, h3⟩ := e
    subst h1
    cases tg <;> first | (simp [isTup] at h0; done) | skip
    have pa := (A.ls _ h3).2.2 []
    cases a <;> first | (simp [mtL] at h3; done) | skip
    simp only [mtL, Bool.and_eq_true] at h3
    exact r_zipK (gl_of O h2) (O.bn _ zip_nm) pa (star_one (no_star h3.1)) (stars_of h3.2 _ _).1
  · exfalso
    unfold mtI at h
    split at h <;> first | (cases h; done) | skip
    all_goals (simp at *; done)
theorem tup_nm : "tuple" ∈ allNames := by decide
theorem sum_nm : "sum" ∈ allNames := by decide
theorem sd_fst (O : XOk g cs cl fl N fp sc X) {a b : E} {z : Str} (A : Sd g cs cl fl a N fp sc X) (B : Sd g cs cl fl b N fp sc X) : Sd g cs cl fl (.fst a z b) N fp sc X := by
  refine Sd.of (fun x h => ?_) (fun op vs p h => by simp [mt] at h) (fun xs => by cases xs <;> simp [mtL]) (fun o => by cases o <;> simp [mtP]) (fun tg x => by cases x <;> simp [mtI]) (fun x => by cases x <;> simp [mtG]) (fun xs => by cases xs <;> simp [mtGs])
  have h2 : ∃ (y y2 : Expr) (p1 p2 p3 p4 : Pos) (k : Nat), x = .JoinedStr [.FormattedValue y (-1) none p1, .Constant (.str z) k p2, .FormattedValue y2 (-1) none p3] p4 ∧ mt g N fp sc a y = true ∧ mt g N fp sc b y2 = true := by
    unfold mt at h
    split at h <;> first | (cases h; done) | skip
    all_goals first | (exfalso; simp at *; done) | skip
    rename_i x c1 p1 w k p2 y c2 p3 p4 e
    simp only [Bool.and_eq_true, decide_eq_true_eq] at h
    obtain ⟨⟨⟨⟨e1, e2⟩, e3⟩, h1⟩, h3⟩ := h
    cases e
    subst e1
    subst e2
    subst e3
    exact ⟨_, _, _, _, _, _, _, rfl, h1, h3⟩
  obtain ⟨y, y2, p1, p2, p3, p4, k, rfl, h1, h2⟩ := h2
  have p : PE X (.JoinedStr [.FormattedValue y (-1) none p1, .Constant (.str z) k p2, .FormattedValue y2 (-1) none p3] p4) (rdE cs cl fl X.K (.fst a z b)) := Lw.PE.imp (pe_joined (.cons (pe_fmt (A.ev _ h1).1) (.cons pe_str (.cons (pe_fmt (B.ev _ h2).1) .nil)))) fun σ H Q q => i_fst q
  exact ⟨p, pt_plain p fun _ => rfl⟩
theorem sd_rngt (O : XOk g cs cl fl N fp sc X) {a : E} (A : Sd g cs cl fl a N fp sc X) : Sd g cs cl fl (.rngt a) N fp sc X := by
  refine Sd.of (fun x h => ?_) (fun op vs p h => by simp [mt] at h) (fun xs => by cases xs <;> simp [mtL]) (fun o => by cases o <;> simp [mtP]) (fun tg x => by cases x <;> simp [mtI]) (fun x => by cases x <;> simp [mtG]) (fun xs => by cases xs <;> simp [mtGs])
  have h2 : ∃ (y : Expr) (p1 p2 p3 p4 : Pos), x = .Call (.Name "tuple" p1) [.Call (.Name "range" p2) [y] [] p3] [] p4 ∧ glB sc "tuple" = true ∧ glB sc "range" = true ∧ mt g N fp sc a y = true := by
    unfold mt at h
    split at h <;> first | (cases h; done) | skip
    all_goals first | (exfalso; simp at *; done) | skip
    rename_i n p1 m p2 y p3 p4 e
    simp only [Bool.and_eq_true, decide_eq_true_eq] at h
    obtain ⟨⟨⟨⟨e1, e2⟩, h1⟩, h2⟩, h3⟩ := h
    cases e
    subst e1
    subst e2
    exact ⟨_, _, _, _, _, rfl, h1, h2, h3⟩
  obtain ⟨y, p1, p2, p3, p4, rfl, g1, g2, h2⟩ := h2
  have st := star_one (env := X.env) (xs := []) (no_star h2)
  have p : PE X (.Call (.Name "tuple" p1) [.Call (.Name "range" p2) [y] [] p3] [] p4) (rdE cs cl fl X.K (.rngt a)) := Lw.PE.imp (pe_tupRg O.calm (gl_of O g1) (O.bn _ tup_nm) (prg_1 (gl_of O g2) (O.bn _ rng_nm) (A.ev _ h2).1 st)) fun σ H Q q => i_rngt q
  exact ⟨p, pt_plain p fun _ => rfl⟩
theorem sd_sumS (O : XOk g cs cl fl N fp sc X) {a : E} (A : Sd g cs cl fl a N fp sc X) : Sd g cs cl fl (.sumS a) N fp sc X := by
  refine Sd.of (fun x h => ?_) (fun op vs p h => by simp [mt] at h) (fun xs => by cases xs <;> simp [mtL]) (fun o => by cases o <;> simp [mtP]) (fun tg x => by cases x <;> simp [mtI]) (fun x => by cases x <;> simp [mtG]) (fun xs => by cases xs <;> simp [mtGs])
  have h2 : ∃ (y : Expr) (p1 p2 p3 : Pos), x = .Call (.Name "sum" p1) [y, .List [] p2] [] p3 ∧ glB sc "sum" = true ∧ mt g N fp sc a y = true := by
    unfold mt at h
    split at h <;> first | (cases h; done) | skip
    all_goals first | (exfalso; simp at *; done) | skip
    rename_i n p1 y p2 p3 e
    simp only [Bool.and_eq_true, decide_eq_true_eq] at h
    obtain ⟨⟨e1, h1⟩, h3⟩ := h
    cases e
    subst e1
    exact ⟨_, _, _, _, rfl, h1, h3⟩
  obtain ⟨y, p1, p2, p3, rfl, g1, h2⟩ := h2
  have ns := no_star h2
  obtain ⟨q1, q2, q3⟩ := goodN_of (bi_good .sumL)
  have p : PE X (.Call (.Name "sum" p1) [y, .List [] p2] [] p3) (rdE cs cl fl X.K (.sumS a)) := Lw.PE.imp (pe_callB (call_sumS O.calm) (gl_of O g1) (O.bn _ sum_nm) (by decide +kernel) (pa_cons (A.ev _ h2).1 (pa_cons (pe_lst pa_nil) pa_nil) (star_one ns)) q3 q1 (star_one ns) rfl) fun σ H Q q => i_sumS q
  exact ⟨p, pt_plain p fun _ => rfl⟩
theorem sd_rngl (O : XOk g cs cl fl N fp sc X) {a : E} (A : Sd g cs cl fl a N fp sc X) : Sd g cs cl fl (.rngl a) N fp sc X := by
  refine Sd.of (fun x h => ?_) (fun op vs p h => by simp [mt] at h) (fun xs => by cases xs <;> simp [mtL]) (fun o => by cases o <;> simp [mtP]) (fun tg x => by cases x <;> simp [mtI]) (fun x => by cases x <;> simp [mtG]) (fun xs => by cases xs <;> simp [mtGs])
  have h2 : ∃ (y : Expr) (p1 p2 p3 p4 : Pos), x = .Call (.Name "list" p1) [.Call (.Name "range" p2) [y] [] p3] [] p4 ∧ glB sc "list" = true ∧ glB sc "range" = true ∧ mt g N fp sc a y = true := by
    unfold mt at h
    split at h <;> first | (cases h; done) | skip
    all_goals first | (exfalso; simp at *; done) | skip
    rename_i n p1 m p2 y p3 p4 e
    simp only [Bool.and_eq_true, decide_eq_true_eq] at h
    obtain ⟨⟨⟨⟨e1, e2⟩, h1⟩, h2⟩, h3⟩ := h
    cases e
    subst e1
    subst e2
    exact ⟨_, _, _, _, _, rfl, h1, h2, h3⟩
  obtain ⟨y, p1, p2, p3, p4, rfl, g1, g2, h2⟩ := h2
  have st := star_one (env := X.env) (xs := []) (no_star h2)
  have p : PE X (.Call (.Name "list" p1) [.Call (.Name "range" p2) [y] [] p3] [] p4) (rdE cs cl fl X.K (.rngl a)) := Lw.PE.imp (pe_listRg O.calm (gl_of O g1) (O.bn _ lst_nm) (prg_1 (gl_of O g2) (O.bn _ rng_nm) (A.ev _ h2).1 st)) fun σ H Q q => i_rngl q
  exact ⟨p, pt_plain p fun _ => rfl⟩
theorem sd_none {e : E} (h0 : ∀ fp sc x, mt g N fp sc e x = false) (h1 : ∀ xs, mtL g N fp sc e xs = false) (h2 : ∀ o, mtP g N fp sc e o = false) (h3 : ∀ tg x, mtI g N fp sc tg e x = false) (h4 : ∀ x, mtG g N fp sc e x = false) (h5 : ∀ xs, mtGs g N fp sc e xs = false) : Sd g cs cl fl e N fp sc X :=
  Sd.of (fun x h => by rw [h0] at h; cases h) (fun op vs p h => by rw [h0] at h; cases h) h1 h2 h3 h4 h5
theorem meth_eq {o : Expr} {name : Str} {apos pos : Pos} {es : List Expr} {env : Env} (hb : attributeBase o name env (eval o env) = eval o env)
    (hf : ((backTo pos (starEach es env)).all (fun x => !x.1) && (backToKw pos (keywordEach [] env)).all (fun x => x.1.isSome) && decide (es.length + ([] : List Keyword).length + (if ([] : List Keyword).isEmpty then 0 else 1) < 30)) = true) (hl : (apos.endLine == pos.line) = true) :
    eval (.Call (.Attribute o name apos) es [] pos) env = (do
      let ov ← eval o env
      standAt apos.atName
      let (f, first) ← holding [ov] (getMethod ov name (do return (← importBound o env).getD true))
      callWith pos f first (backTo pos (starEach es env)) (backToKw pos (keywordEach [] env))) := by
  rw [arm_eval_Call, hb]
  have hform : methodCallForm (es.length + ([] : List Keyword).length) (backTo pos (starEach es env)) (backToKw pos (keywordEach [] env)) = true := hf
  have hpos : methodCallPos true o env apos pos = pure pos := by unfold methodCallPos; simp [hl]
  congr 1
  funext ov
  congr 1
  funext _
  unfold methodCall
  rw [hform, hpos]
  unfold calleeOf
  simp
theorem methD_nil {m : Str} {o : E} {σ : L2.St} {H : Hp} {Q : VK} (h : tMethD X cs m (rdE cs cl fl X.K o) (fun pl => rdO cs X.K (avs cl fl pl .nil)) σ H Q) : tMethD X cs m (rdE cs cl fl X.K o) (fun _ => tNil) σ H Q := by
  obtain ⟨Z, ρ, st, tm, I, F⟩ := h
  refine ⟨Z, ρ, st, tm, I, W.mono F fun x s F Z' ρ' v H' l p I hx => ?_⟩
  obtain ⟨a, dx, fs, C, fa, fd, ps, k, pl, G, e1, e2, e3, e4, e5, e6, e7, e8, q⟩ := F Z' ρ' v H' l p I hx
  exact ⟨a, dx, fs, C, fa, fd, ps, k, pl, G, e1, e2, e3, e4, e5, e6, e7, e8, a_nil (ps := pl) q⟩
theorem sd_omt (O : XOk g cs cl fl N fp sc X) {m : Str} {o es : E} (A : Sd g cs cl fl o N fp sc X) (B : Sd g cs cl fl es N fp sc X) : Sd g cs cl fl (.omt m o es) N fp sc X := by
  refine Sd.of (fun x h => ?_) (fun op vs p h => by simp [mt] at h) (fun xs => by cases xs <;> simp [mtL]) (fun o => by cases o <;> simp [mtP]) (fun tg x => by cases x <;> simp [mtI]) (fun x => by cases x <;> simp [mtG]) (fun xs => by cases xs <;> simp [mtGs])
  cases x <;> first | (simp [mt] at h; done) | skip
  rename_i x xs ks pos
  cases x <;> cases ks <;> first | (simp [mt] at h; done) | skip
  rename_i x n ap
  simp only [mt, Bool.and_eq_true, decide_eq_true_eq, Bool.not_eq_true'] at h
  obtain ⟨⟨⟨⟨⟨h1, h2⟩, h3⟩, h6⟩, h4⟩, h5⟩ := h
  subst h1
  have hb := attr_base (m := n) (env := X.env) h2
  have ht := meth_eq (es := xs) (pos := pos) (apos := ap) hb (few_of h5 (by omega) _ _) h3
  have q : PE X (.Call (.Attribute x n ap) xs [] pos) (rdE cs cl fl X.K (.omt n o es)) := by
    cases xs with
    | nil =>
      have e := mtL_nil h5
      subst e
      exact Lw.PE.imp (pe_methD (t := fun _ => tNil) (A.ev x h4).1 O.gd (fun _ => pa_nil) (.inl ⟨rfl, fun _ => rfl⟩) ht) fun σ H Q q => methD_nil (i_omt (fun c f => O.mts c n f) q)
    | cons y ys =>
      have h7 := h5
      cases es <;> first | (simp [mtL] at h7; done) | skip
      rename_i e es
      simp only [mtL, Bool.and_eq_true] at h7
      exact Lw.PE.imp (pe_methD (t := fun pl => rdO cs X.K (avs cl fl pl (.cons e es))) (A.ev x h4).1 O.gd (fun b => (B.ls _ h5).2.2 b) (.inr ⟨y, ys, rfl, star_one (no_star h7.1), (stars_of h7.2 _ _).1⟩) ht) fun σ H Q q => i_omt (fun c f => O.mts c n f) q
  exact ⟨q, pt_plain q fun _ => rfl⟩
theorem sd_new (O : XOk g cs cl fl N fp sc X) {c : Nat} {es : E} (A : Sd g cs cl fl es N fp sc X) : Sd g cs cl fl (.new c es) N fp sc X := by
  refine Sd.of (fun x h => ?_) (fun op vs p h => by simp [mt] at h) (fun xs => by cases xs <;> simp [mtL]) (fun o => by cases o <;> simp [mtP]) (fun tg x => by cases x <;> simp [mtI]) (fun x => by cases x <;> simp [mtG]) (fun xs => by cases xs <;> simp [mtGs])
  cases x <;> first | (simp [mt] at h; done) | skip
  rename_i x xs ks pos
  cases x <;> cases ks <;> first | (simp [mt] at h; done) | skip
  rename_i x p
  simp only [mt, Bool.and_eq_true, decide_eq_true_eq] at h
  obtain ⟨⟨⟨h1, h2⟩, h3⟩, h4⟩ := h
  obtain ⟨g1, g2, g3⟩ := goodN_of h3
  have q : PE X (.Call (.Name x p) xs [] pos) (rdE cs cl fl X.K (.new c es)) := by
    cases hi : cl.ini c with
    | none =>
      refine ⟨fun pins s σ H Q I q => ?_⟩
      obtain ⟨Z, ρ, st, tm, _, F⟩ := q
      unfold Fit hd at F
      rw [hi] at F
      exact F.elim
    | some f =>
      obtain ⟨C, fa, fd, ps, k, hc, m1, M, F, hr, hb, hn⟩ := O.news c f x hi h1
      cases xs with
      | nil =>
        have e := mtL_nil h4
        subst e
        exact Lw.PE.imp (pe_makeV0 M F hr O.gd hb (gl_of O h2) m1 g1) fun σ H Q q => by
          have := i_new hc hi hn q
          obtain ⟨Z, ρ, st, tm, I, F⟩ := this
          exact a_nil (ps := (fl f).tail) ⟨Z, ρ, st, tm, I, F⟩
      | cons y ys =>
        have h5 := h4
        cases es <;> first | (simp [mtL] at h5; done) | skip
        simp only [mtL, Bool.and_eq_true] at h5
        exact Lw.PE.imp (pe_makeV M F hr O.gd hb (gl_of O h2) m1 ((A.ls _ h4).2.2 (fl f).tail) g1 (star_one (no_star h5.1)) (stars_of h5.2 _ _).1) fun σ H Q q => i_new hc hi hn q
  exact ⟨q, pt_plain q fun _ => rfl⟩
theorem sd_fld (O : XOk g cs cl fl N fp sc X) {o : E} {f : Str} (A : Sd g cs cl fl o N fp sc X) : Sd g cs cl fl (.fld o f) N fp sc X where
  ev := fun x h => by
    cases x <;> first | (simp [mt] at h; done) | skip
    rename_i x n pos
    simp only [mt, Bool.and_eq_true, decide_eq_true_eq, Bool.not_eq_true'] at h
    obtain ⟨⟨⟨h1, h2⟩, h3⟩, h4⟩ := h
    subst h1
    have p : PE X (.Attribute x n pos) (rdE cs cl fl X.K (.fld o n)) := Lw.PE.imp (pe_fld (A.ev x h4).1 (attr_base h2)) fun σ H Q q => i_fld (fun c C hc => O.flds c C n hc h3) q
    exact ⟨p, pt_plain p fun _ => rfl⟩
  bo := fun op vs p h => by simp [mt] at h
  ls := fun xs h => by cases xs <;> simp [mtL] at h
  pt := fun o h => by cases o <;> simp [mtP] at h
  it := fun tg x h => by cases x <;> simp [mtI] at h
  tg := fun x h => by
    cases x <;> first | (simp [mtG] at h; done) | skip
    rename_i x n pos
    simp only [mtG, Bool.and_eq_true, decide_eq_true_eq] at h
    obtain ⟨⟨h1, h2⟩, h3⟩ := h
    subst h1
    exact Lw.PG.imp (pg_fld (A.ev x h3).1) fun v σ H Q q => g_fld (fun c C hc => O.flds c C n hc h2) q
  ts := fun xs h => by cases xs <;> simp [mtGs] at h
theorem sd_callD (O : XOk g cs cl fl N fp sc X) {f : Nat} {es : E} {dk : List L2.Key} (A : Sd g cs cl fl es N fp sc X) : Sd g cs cl fl (.callD f es dk) N fp sc X := by
  refine Sd.of (fun x h => ?_) (fun op vs p h => by simp [mt] at h) (fun xs => by cases xs <;> simp [mtL]) (fun o => by cases o <;> simp [mtP]) (fun tg x => by cases x <;> simp [mtI]) (fun x => by cases x <;> simp [mtG]) (fun xs => by cases xs <;> simp [mtGs])
  cases x <;> first | (simp [mt] at h; done) | skip
  rename_i x xs ks pos
  cases x <;> cases ks <;> first | (simp [mt] at h; done) | skip
  rename_i x p
  simp only [mt, Bool.and_eq_true, decide_eq_true_eq] at h
  obtain ⟨⟨⟨h1, h2⟩, h3⟩, h4⟩ := h
  obtain ⟨g1, g2, g3⟩ := goodN_of h3
  obtain ⟨fa, fd, ps, k, m1, m2, F, hr, ⟨ds, hd, hb⟩, hn⟩ := O.dfs f x dk (df_mem h1)
  have q : PE X (.Call (.Name x p) xs [] pos) (rdE cs cl fl X.K (.callD f es dk)) := by
    cases xs with
    | nil =>
      have e := mtL_nil h4
      subst e
      exact Lw.PE.imp (pe_callD0 F hr O.gd hd hb (gl_of O h2) m1 m2 g1) fun σ H Q q => by
        have := i_callD hn q
        obtain ⟨Z, ρ, st, tm, I, F⟩ := this
        exact a_nil (ps := fl f) ⟨Z, ρ, st, tm, I, F⟩
    | cons y ys =>
      have h5 := h4
      cases es <;> first | (simp [mtL] at h5; done) | skip
      simp only [mtL, Bool.and_eq_true] at h5
      exact Lw.PE.imp (pe_callD F hr O.gd hd hb (gl_of O h2) m1 m2 ((A.ls _ h4).2.2 (fl f)) g1 (star_one (no_star h5.1)) (stars_of h5.2 _ _).1) fun σ H Q q => i_callD hn q
  exact ⟨q, pt_plain q fun _ => rfl⟩
theorem lenOfSet_eq {e : Expr} {n m : Str} {x : Expr} (h : lenOfSet e = some (n, m, x)) : ∃ p1 p2 p3 p4, e = .Call (.Name n p1) [.Call (.Name m p2) [x] [] p3] [] p4 := by
  unfold lenOfSet at h
  split at h
  · cases h; exact ⟨_, _, _, _, rfl⟩
  · cases h
theorem lenOfComp_eq {e : Expr} {n : Str} {x y z : Expr} {ifs : List Expr} {scope : Scope} (h : lenOfComp e = some (n, x, y, z, ifs, scope)) : ∃ p1 p2 p3, e = .Call (.Name n p1) [.SetComp x [⟨y, z, ifs, 0⟩] scope p2] [] p3 := by
  unfold lenOfComp at h
  split at h
  · cases h; exact ⟨_, _, _, rfl⟩
  · cases h
theorem compOf2_eq {e x y z y1 z1 : Expr} {ifs ifs1 : List Expr} {scope : Scope} (h : compOf2 e = some (x, y, z, ifs, y1, z1, ifs1, scope)) : ∃ p, e = .ListComp x [⟨y, z, ifs, 0⟩, ⟨y1, z1, ifs1, 0⟩] scope p := by
  unfold compOf2 at h
  split at h
  · cases h; exact ⟨_, rfl⟩
  · cases h
theorem len_nm : "len" ∈ allNames := by decide
theorem set_nm : "set" ∈ allNames := by decide
theorem sd_slen (O : XOk g cs cl fl N fp sc X) {a : E} (A : Sd g cs cl fl a N fp sc X) : Sd g cs cl fl (.slen a) N fp sc X := by
  refine Sd.of (fun x h => ?_) (fun op vs p h => by simp [mt, lenOfSet] at h) (fun xs => by cases xs <;> simp [mtL]) (fun o => by cases o <;> simp [mtP]) (fun tg x => by cases x <;> simp [mtI]) (fun x => by cases x <;> simp [mtG]) (fun xs => by cases xs <;> simp [mtGs])
  simp only [mt] at h
  split at h
  rotate_left
  · cases h
  rename_i n m y e
  obtain ⟨p1, p2, p3, p4, rfl⟩ := lenOfSet_eq e
  simp only [Bool.and_eq_true, decide_eq_true_eq] at h
  obtain ⟨⟨⟨⟨rfl, rfl⟩, h1⟩, h2⟩, h3⟩ := h
  have q : PE X (.Call (.Name "len" p1) [.Call (.Name "set" p2) [y] [] p3] [] p4) (rdE cs cl fl X.K (.slen a)) :=
    Lw.PE.imp (L2.pe_lenSetI O.calm (gl_of O h1) (O.bn _ len_nm) (gl_of O h2) (O.bn _ set_nm) (A.ev _ h3).1 (star_one (no_star h3))) fun σ H Q q => i_slen q
  exact ⟨q, pt_plain q fun _ => rfl⟩
theorem ifs_parts {ifs : List Expr} {cond : E} {fp' : Str → Bool} {sc' : Scope} (h : (match ifs with | [] => isYes cond | [c] => mt g N fp' sc' cond c | _ => false) = true) : ifs = [] ∧ cond = .con (.bl true) ∨ ∃ c, ifs = [c] ∧ mt g N fp' sc' cond c = true := by
  rcases ifs with _ | ⟨c, _ | ⟨c2, ifs⟩⟩
  · exact .inl ⟨rfl, isYes_eq h⟩
  · exact .inr ⟨c, rfl, h⟩
  · cases h
theorem sd_slenC (O : XOk g cs cl fl N fp sc X) {elt t it cond : E} {own : List Nat} (A : ∀ fp sc X, XOk g cs cl fl N fp sc X → Sd g cs cl fl elt N fp sc X) (B : ∀ fp sc X, XOk g cs cl fl N fp sc X → Sd g cs cl fl t N fp sc X) (C : ∀ fp sc X, XOk g cs cl fl N fp sc X → Sd g cs cl fl cond N fp sc X)
    (I : Sd g cs cl fl it N fp sc X) : Sd g cs cl fl (.slenC elt t it cond own) N fp sc X := by
  refine Sd.of (fun x h => ?_) (fun op vs p h => by simp [mt, lenOfComp] at h) (fun xs => by cases xs <;> simp [mtL]) (fun o => by cases o <;> simp [mtP]) (fun tg x => by cases x <;> simp [mtI]) (fun x => by cases x <;> simp [mtG]) (fun xs => by cases xs <;> simp [mtGs])
  simp only [mt] at h
  split at h
  rotate_left
  · cases h
  rename_i n elx y z ifs scope e
  obtain ⟨p1, p2, p3, rfl⟩ := lenOfComp_eq e
  simp only [Bool.and_eq_true, decide_eq_true_eq, Bool.not_eq_true', List.all_eq_true] at h
  obtain ⟨⟨rfl, hg⟩, ⟨⟨⟨⟨⟨⟨⟨h1, h2⟩, h3⟩, h4⟩, h5⟩, h6⟩, h7⟩, h8⟩, h9⟩ := h
  have K := blk_of O A B C h7 h8 (ifs_parts h9)
  have s : PE X (.SetComp elx [⟨y, z, ifs, 0⟩] scope p2) (tSetC X.prog X.w (rdI cs cl fl X.K it) (rdG cs cl fl X.K t) (rdT cs cl fl X.K cond) (rdE cs cl fl X.K elt) own) := by
    have p := pe_setC (pos := p2) O.calm (by rw [O.hN]; exact O.nd) (I.it y z h6) (blkOk_by (N := X.N) (sc := X.env.scope) (by rw [O.hN, O.sc]; exact h1)) K.pg K.pt K.pe (fun x => folded_of h5 x)
    rw [own_map] at p
    exact p
  have q : PE X (.Call (.Name "len" p1) [.SetComp elx [⟨y, z, ifs, 0⟩] scope p2] [] p3) (rdE cs cl fl X.K (.slenC elt t it cond own)) := by
    have c := pe_callB (p := p1) (pos := p3) cr_lenK (gl_of O hg) (O.bn _ len_nm) (by decide +kernel) (pa_cons s pa_nil rfl) (by decide) (by decide) rfl rfl
    refine ⟨fun pins sh σ H Q J q => c.run pins sh σ H Q J ?_⟩
    exact i_slenC (P := X.prog) (w := X.w) h2 (fun i hi => by rw [J.len, O.hN]; exact h3 i hi) (fun k hk => List.contains_iff_mem.mp (h4 k hk)) q
  exact ⟨q, pt_plain q fun _ => rfl⟩
/-- what a comprehension with two for asks, taken apart -/
theorem comp2_parts {elt t it cond t1 it1 cond1 : E} {own own1 : List Nat} {x : Expr} (h : mt g N fp sc (.comp2 elt t it cond t1 it1 cond1 own own1) x = true) : ∃ elx y z ifs y1 z1 ifs1 scope pos, x = .ListComp elx [⟨y, z, ifs, 0⟩, ⟨y1, z1, ifs1, 0⟩] scope pos ∧
    (blkC N sc scope (own.map fun i => (N.getD i "", i)) = true ∧ own.Nodup ∧ (∀ i ∈ own, i < N.length) ∧ (∀ k ∈ tgv t, k ∈ own) ∧ isSet z = false ∧ mtI g N fp sc y it z = true ∧ mtG g N (fun n => scope.names.lookup n == some .cell) (relS scope sc) t y = true ∧
    mt g N (fun n => scope.names.lookup n == some .cell) (relS scope sc) elt elx = true ∧ (ifs = [] ∧ cond = .con (.bl true) ∨ ∃ c, ifs = [c] ∧ mt g N (fun n => scope.names.lookup n == some .cell) (relS scope sc) cond c = true)) ∧
    own1.Nodup ∧ (∀ i ∈ own1, i ∈ own) ∧ (∀ k ∈ tgv t1, k ∈ own1) ∧ isSet z1 = false ∧ mtI g N (fun n => scope.names.lookup n == some .cell) (relS scope sc) y1 it1 z1 = true ∧ mtG g N (fun n => scope.names.lookup n == some .cell) (relS scope sc) t1 y1 = true ∧
    (ifs1 = [] ∧ cond1 = .con (.bl true) ∨ ∃ c, ifs1 = [c] ∧ mt g N (fun n => scope.names.lookup n == some .cell) (relS scope sc) cond1 c = true) := by
  simp only [mt] at h
  split at h
  rotate_left
  · cases h
  rename_i elx y z ifs y1 z1 ifs1 scope e
  obtain ⟨pos, rfl⟩ := compOf2_eq e
  simp only [Bool.and_eq_true, decide_eq_true_eq, Bool.not_eq_true', List.all_eq_true] at h
  obtain ⟨⟨⟨⟨⟨⟨⟨⟨⟨h1, h2⟩, h3⟩, h4⟩, h5⟩, h6⟩, h7⟩, h8⟩, h9⟩, ⟨⟨⟨⟨⟨k1, k2⟩, k3⟩, k4⟩, k5⟩, k6⟩, k7⟩ := h
  exact ⟨elx, y, z, ifs, y1, z1, ifs1, scope, pos, rfl, ⟨h1, h2, h3, fun k hk => List.contains_iff_mem.mp (h4 k hk), h5, h6, h7, h8, ifs_parts h9⟩, k1, fun i hi => List.contains_iff_mem.mp (k2 i hi), fun k hk => List.contains_iff_mem.mp (k3 k hk), k4, k5, k6, ifs_parts k7⟩
theorem sd_comp2 (O : XOk g cs cl fl N fp sc X) {elt t it cond t1 it1 cond1 : E} {own own1 : List Nat} (A : ∀ fp sc X, XOk g cs cl fl N fp sc X → Sd g cs cl fl elt N fp sc X) (B : ∀ fp sc X, XOk g cs cl fl N fp sc X → Sd g cs cl fl t N fp sc X) (C : ∀ fp sc X, XOk g cs cl fl N fp sc X → Sd g cs cl fl cond N fp sc X)
    (I : Sd g cs cl fl it N fp sc X) (B1 : ∀ fp sc X, XOk g cs cl fl N fp sc X → Sd g cs cl fl t1 N fp sc X) (I1 : ∀ fp sc X, XOk g cs cl fl N fp sc X → Sd g cs cl fl it1 N fp sc X) (C1 : ∀ fp sc X, XOk g cs cl fl N fp sc X → Sd g cs cl fl cond1 N fp sc X) : Sd g cs cl fl (.comp2 elt t it cond t1 it1 cond1 own own1) N fp sc X := by
  refine Sd.of (fun x h => ?_) (fun op vs p h => by simp [mt, compOf2] at h) (fun xs => by cases xs <;> simp [mtL]) (fun o => by cases o <;> simp [mtP]) (fun tg x => by cases x <;> simp [mtI]) (fun x => by cases x <;> simp [mtG]) (fun xs => by cases xs <;> simp [mtGs])
  obtain ⟨elx, y, z, ifs, y1, z1, ifs1, scope, pos, rfl, ⟨h1, h2, h3, h4, h5, h6, h7, h8, h9⟩, k1, k2, k3, k4, k5, k6, k7⟩ := comp2_parts h
  have K := blk_of O A B C h7 h8 h9
  have K1 := blk_of O A B1 C1 k6 h8 k7
  have q : PE X (.ListComp elx [⟨y, z, ifs, 0⟩, ⟨y1, z1, ifs1, 0⟩] scope pos) (rdE cs cl fl X.K (.comp2 elt t it cond t1 it1 cond1 own own1)) := by
    have p := pe_lc2 (pos := pos) (vs1 := own1) (wi1 := rdI cs cl fl X.K it1) O.calm (by rw [O.hN]; exact O.nd) (I.it y z h6) (blkOk_by (N := X.N) (sc := X.env.scope) (by rw [O.hN, O.sc]; exact h1)) (fun i hi => by rw [own_map]; exact k2 i hi) K.pg K.pt
      (fun s H C clo f => (I1 _ _ _ (O.blk s H scope C clo f)).it y1 z1 k5) K1.pg K1.pt K.pe (fun x => folded_of h5 x) (fun env x => folded_of k4 x)
    refine ⟨fun pins s σ H Q J q => p.run pins s σ H Q J ?_⟩
    rw [own_map]
    exact i_comp2 h2 (fun i hi => by rw [J.len, O.hN]; exact h3 i hi) h4 k1 k2 k3 q
  exact ⟨q, pt_plain q fun _ => rfl⟩
theorem sd : ∀ (e : E) (fp : Str → Bool) (sc : Scope) (X : Cx), XOk g cs cl fl N fp sc X → Sd g cs cl fl e N fp sc X
  | .var i, fp, sc, X, O => sd_var O i
  | .con d, fp, sc, X, O => sd_con O d
  | .bin op a b, fp, sc, X, O => sd_bin O (sd a fp sc X O) (sd b fp sc X O)
  | .neg a, fp, sc, X, O => sd_neg O (sd a fp sc X O)
  | .cmp op a b, fp, sc, X, O => sd_cmp O (sd a fp sc X O) (sd b fp sc X O)
  | .chn o1 o2 a b c, fp, sc, X, O => sd_chn O (sd a fp sc X O) (sd b fp sc X O) (sd c fp sc X O)
  | .one a, fp, sc, X, O => sd_one O (sd a fp sc X O)
  | .and a b, fp, sc, X, O => sd_and O (sd a fp sc X O) (sd b fp sc X O)
  | .or a b, fp, sc, X, O => sd_or O (sd a fp sc X O) (sd b fp sc X O)
  | .not a, fp, sc, X, O => sd_not O (sd a fp sc X O)
  | .ite c a b, fp, sc, X, O => sd_ite O (sd c fp sc X O) (sd a fp sc X O) (sd b fp sc X O)
  | .tup es, fp, sc, X, O => sd_tup O (sd es fp sc X O)
  | .lst es, fp, sc, X, O => sd_lst O (sd es fp sc X O)
  | .idx a b, fp, sc, X, O => sd_idx O (sd a fp sc X O) (sd b fp sc X O)
  | .sl a lo hi, fp, sc, X, O => sd_sl O (sd a fp sc X O) (sd lo fp sc X O) (sd hi fp sc X O)
  | .call f es, fp, sc, X, O => sd_call O (sd es fp sc X O)
  | .blt b es, fp, sc, X, O => sd_blt O (sd es fp sc X O)
  | .app o e, fp, sc, X, O => sd_app O (sd o fp sc X O) (sd e fp sc X O)
  | .mth m o es, fp, sc, X, O => sd_mth O (sd o fp sc X O) (sd es fp sc X O)
  | .comp elt t it cond own, fp, sc, X, O => sd_comp O (sd elt) (sd t) (sd cond) (sd it fp sc X O)
  | .nil, fp, sc, X, O => sd_nil O
  | .cons e es, fp, sc, X, O => sd_cons O (sd e fp sc X O) (sd es fp sc X O)
  | .seq a, fp, sc, X, O => sd_seq O (sd a fp sc X O)
  | .rng1 a, fp, sc, X, O => sd_rng1 O (sd a fp sc X O)
  | .rng2 a b, fp, sc, X, O => sd_rng2 O (sd a fp sc X O) (sd b fp sc X O)
  | .enm a, fp, sc, X, O => sd_enm O (sd a fp sc X O)
  | .dsp es, fp, sc, X, O => sd_dsp O
  | .repL es, fp, sc, X, O => sd_repL O (sd es fp sc X O)
  | .rev a, fp, sc, X, O => sd_rev O (sd a fp sc X O)
  | .stp a k, fp, sc, X, O => sd_stp O (sd a fp sc X O)
  | .rngl a, fp, sc, X, O => sd_rngl O (sd a fp sc X O)
  | .rngt a, fp, sc, X, O => sd_rngt O (sd a fp sc X O)
  | .fst a z b, fp, sc, X, O => sd_fst O (sd a fp sc X O) (sd b fp sc X O)
  | .sumS a, fp, sc, X, O => sd_sumS O (sd a fp sc X O)
  | .callD f es ks, fp, sc, X, O => sd_callD O (sd es fp sc X O)
  | .slen a, fp, sc, X, O => sd_slen O (sd a fp sc X O)
  | .slenC elt t it cond own, fp, sc, X, O => sd_slenC O (sd elt) (sd t) (sd cond) (sd it fp sc X O)
  | .comp2 elt t it cond t1 it1 cond1 own own1, fp, sc, X, O => sd_comp2 O (sd elt) (sd t) (sd cond) (sd it fp sc X O) (sd t1) (sd it1) (sd cond1)
  | .zipE es, fp, sc, X, O => sd_zipE O (sd es fp sc X O)
  | .omt m o es, fp, sc, X, O => sd_omt O (sd o fp sc X O) (sd es fp sc X O)
  | .new c es, fp, sc, X, O => sd_new O (sd es fp sc X O)
  | .fld o f, fp, sc, X, O => sd_fld O (sd o fp sc X O)
end
end Lw

set_option Elab.async false
set_option linter.all false
set_option maxRecDepth 100000
set_option maxHeartbeats 8000000
/-! Lw: a, b = x, y and a, b, c = x, y, z with plain local names -/
namespace Lw
open PySem L2 PySem.Spec PyProof.Rows
theorem unp_any {X : Cx} {pins : List (Addr × Obj)} {σ : L2.St} {H : Hp} {s : Shared} {a : Addr} {xs : List V} (hc : X.calm = true) (I : L2.Inv X pins σ H s) (hq : SqT X.K H a xs ∨ SqL X.K H a xs) :
    ∃ its : List Value, Vals xs its ∧ ∀ {E : Value → Shared → Prop} {Q : List Value → Shared → Prop}, (∀ h', (∀ b o, b ≠ s.heap.objs.size → s.heap.get? b = some o → h'.get? b = some o) → Q its { s with heap := h' }) → wpAny (model X.prog X.w) X.A (unpackItems (.ref a) its.length none) Q E s := by
  rcases hq with hq | hq
  · obtain ⟨its, rv, ht, hz⟩ := I.tuple hq
    exact ⟨its, rv, fun {E Q} h => by
      have := unpackItems_tuple (prog := X.prog) (w := X.w) (items := its.toArray) (E := E) (Q := Q) (I.ok.hd hc) ht fun h' hx => by simpa using h h' hx
      rw [List.size_toArray] at this
      exact this⟩
  · obtain ⟨its, rv, pl, hz⟩ := I.list hq
    exact ⟨its, rv, fun {E Q} h => by
      have := PySem.W.kun_itemsOf (prog := X.prog) (w := X.w) (E := E) (Q := Q) (I.ok.hd hc) pl.isList fun h' hx => by simpa using h h' hx
      rw [List.size_toArray] at this
      exact this⟩
def tPar2 (K : Fg) (i j : Nat) (te : TE) : TS := fun D σ H => te σ H fun v H1 => ∃ a v1 v2, v = .ref a ∧ (SqT K H1 a [v1, v2] ∨ SqL K H1 a [v1, v2]) ∧ D.nx ((σ.set i (some v1)).set j (some v2)) H1
theorem ps_par2 {X : Cx} {i j : Nat} {x y : Str} {e : Expr} {te : TE} {px py pt pos : Pos} {kt} (hc : X.calm = true) (hN : X.N.Nodup) (hi : X.N[i]? = some x) (hj : X.N[j]? = some y) (hij : i ≠ j)
    (hx : X.env.scope.names.lookup x = some .local) (hy : X.env.scope.names.lookup y = some .local) (he : PE X e te)
    (hw : swappedStores [.Tuple [.Name x px, .Name y py] kt pt] e X.env = pure (some [x, y]))
    (hs : swapsWithSole [.Tuple [.Name x px, .Name y py] kt pt] e pos.line X.env = pure false) :
    PS X (.Assign [.Tuple [.Name x px, .Name y py] kt pt] e pos) (tPar2 X.K i j te) := by
  refine ⟨fun pins s σ H D I h => ?_⟩
  rw [exec_Assign_arm]
  refine wpAny_bind (wpAny_standAt ?_)
  rw [hs]
  refine wpAny_bind (wpAny_pure ?_)
  rw [if_neg (by decide)]
  refine wpAny_bind (thn (he.run pins s σ H _ I h) fun v s1 ⟨xv, H1, I1, r1, a, v1, v2, e1, hT, q1⟩ => ?_)
  subst e1
  cases r1
  obtain ⟨its, rv, un⟩ := unp_any hc I1 hT
  obtain ⟨u1, u2, rfl, r1', r2'⟩ : ∃ u1 u2, its = [u1, u2] ∧ RelV v1 u1 ∧ RelV v2 u2 := by
    cases rv with
    | cons p q =>
      cases q with
      | cons p' q' =>
        cases q'
        exact ⟨_, _, rfl, p, p'⟩
  rw [hw]
  refine wpAny_bind (wpAny_pure ?_)
  show wpAny (model X.prog X.w) X.A (do rule "assign.swapped-stores"; let items ← unpackItems (.ref a) 2 none; assignInOrder [fun v => bindName X.env y v, fun v => bindName X.env x v] items.reverse; pure PySem.Flow.next) _ _ _
  refine wpAny_bind (wpAny_rule (wpAny_bind (un fun h' hx' => ?_)))
  have I3 := I1.kept (h' := h') (t' := s1.toks) fun b o e => hx' b o (Nat.ne_of_lt (Heap.lt_size e)) e
  show wpAny _ _ (assignInOrder [fun v => bindName X.env y v, fun v => bindName X.env x v] [u2, u1] >>= fun _ => pure PySem.Flow.next) _ _ _
  refine wpAny_bind (assignInOrder_cons (wpAny_bindName (store_ok I3 hN hj (.inl hy) r2' (fun s2 I4 => ?_) (.inr hy))))
  refine assignInOrder_cons (wpAny_bindName (store_ok I4 hN hi (.inl hx) r1' (fun s3 I5 => assignInOrder_nil (wpAny_pure ?_)) (.inr hx)))
  rw [List.set_comm _ _ (Ne.symm hij)] at I5
  exact ⟨_, H1, I5, q1⟩
def tPar3 (K : Fg) (i j k : Nat) (te : TE) : TS := fun D σ H => te σ H fun v H1 => ∃ a v1 v2 v3, v = .ref a ∧ (SqT K H1 a [v1, v2, v3] ∨ SqL K H1 a [v1, v2, v3]) ∧ D.nx (((σ.set i (some v1)).set j (some v2)).set k (some v3)) H1
theorem ps_par3 {X : Cx} {i j k : Nat} {x y z : Str} {e : Expr} {te : TE} {px py pz pt pos : Pos} {kt} (hc : X.calm = true) (hN : X.N.Nodup) (hi : X.N[i]? = some x) (hj : X.N[j]? = some y) (hk : X.N[k]? = some z) (hij : i ≠ j) (hik : i ≠ k) (hjk : j ≠ k)
    (hx : X.env.scope.names.lookup x = some .local) (hy : X.env.scope.names.lookup y = some .local) (hz : X.env.scope.names.lookup z = some .local) (he : PE X e te)
    (hw : swappedStores [.Tuple [.Name x px, .Name y py, .Name z pz] kt pt] e X.env = pure (some [x, y, z]))
    (hs : swapsWithSole [.Tuple [.Name x px, .Name y py, .Name z pz] kt pt] e pos.line X.env = pure false) :
    PS X (.Assign [.Tuple [.Name x px, .Name y py, .Name z pz] kt pt] e pos) (tPar3 X.K i j k te) := by
  refine ⟨fun pins s σ H D I h => ?_⟩
  rw [exec_Assign_arm]
  refine wpAny_bind (wpAny_standAt ?_)
  rw [hs]
  refine wpAny_bind (wpAny_pure ?_)
  rw [if_neg (by decide)]
  refine wpAny_bind (thn (he.run pins s σ H _ I h) fun v s1 ⟨xv, H1, I1, r1, a, v1, v2, v3, e1, hT, q1⟩ => ?_)
  subst e1
  cases r1
  obtain ⟨its, rv, un⟩ := unp_any hc I1 hT
  obtain ⟨u1, u2, u3, rfl, r1', r2', r3'⟩ : ∃ u1 u2 u3, its = [u1, u2, u3] ∧ RelV v1 u1 ∧ RelV v2 u2 ∧ RelV v3 u3 := by
    cases rv with
    | cons p q =>
      cases q with
      | cons p' q' =>
        cases q' with
        | cons p2 q2 =>
          cases q2
          exact ⟨_, _, _, rfl, p, p', p2⟩
  rw [hw]
  refine wpAny_bind (wpAny_pure ?_)
  show wpAny (model X.prog X.w) X.A (do rule "assign.swapped-stores"; let items ← unpackItems (.ref a) 3 none; assignInOrder [fun v => bindName X.env z v, fun v => bindName X.env y v, fun v => bindName X.env x v] items.reverse; pure PySem.Flow.next) _ _ _
  refine wpAny_bind (wpAny_rule (wpAny_bind (un fun h' hx' => ?_)))
  have I3 := I1.kept (h' := h') (t' := s1.toks) fun b o e => hx' b o (Nat.ne_of_lt (Heap.lt_size e)) e
  show wpAny _ _ (assignInOrder [fun v => bindName X.env z v, fun v => bindName X.env y v, fun v => bindName X.env x v] [u3, u2, u1] >>= fun _ => pure PySem.Flow.next) _ _ _
  refine wpAny_bind (assignInOrder_cons (wpAny_bindName (store_ok I3 hN hk (.inl hz) r3' (fun s2 I4 => ?_) (.inr hz))))
  refine assignInOrder_cons (wpAny_bindName (store_ok I4 hN hj (.inl hy) r2' (fun s3 I5 => ?_) (.inr hy)))
  refine assignInOrder_cons (wpAny_bindName (store_ok I5 hN hi (.inl hx) r1' (fun s4 I6 => assignInOrder_nil (wpAny_pure ?_)) (.inr hx)))
  have e : ((σ.set k (some v3)).set j (some v2)).set i (some v1) = ((σ.set i (some v1)).set j (some v2)).set k (some v3) := by
    rw [List.set_comm _ _ (Ne.symm hij), List.set_comm _ _ (Ne.symm hik), List.set_comm _ _ (Ne.symm hjk)]
  rw [e] at I6
  exact ⟨_, H1, I6, q1⟩
def starB : Expr → Bool | .Starred .. => true | _ => false
/-- the names that are stored from the right -/
def parN (sc : Scope) (y x : Expr) : Option (List Str) := match y, x with
  | .Tuple [.Name a pa, .Name b pb] _ _, .Tuple [u, v] _ _ =>
    if (sc.names.lookup a == some .local && sc.names.lookup b == some .local && pb.line == pa.line && decide (a ≠ b) && !starB u && !starB v && !(foldedForSure 8 u && foldedForSure 8 v) && !(constantsAlone 8 u && constantsAlone 8 v)) then some [a, b] else none
  | .Tuple [.Name a pa, .Name b pb, .Name c pc] _ _, .Tuple [u, v, w] _ _ =>
    if (sc.names.lookup a == some .local && sc.names.lookup b == some .local && sc.names.lookup c == some .local && pb.line == pa.line && pc.line == pa.line && decide (a ≠ b) && decide (a ≠ c) && decide (b ≠ c) && !starB u && !starB v && !starB w && !(foldedForSure 8 u && foldedForSure 8 v && foldedForSure 8 w) && !(constantsAlone 8 u && constantsAlone 8 v && constantsAlone 8 w)) then some [a, b, c] else none
  | _, _ => none
/-- displays that are stored from the left -/
def seqB (y x : Expr) : Bool := match y, x with
  | .Tuple ts _ _, .Tuple vs _ _ => !(ts.length == 2 || ts.length == 3) || vs.length != ts.length || vs.all (foldedForSure 8)
  | _, _ => false
theorem bk_fn {env : Env} (hk : env.scope.kind = .function) : env.blockKind = .function := by unfold Env.blockKind; rw [hk]; rfl
theorem ss_par2 {env : Env} (hk : env.scope.kind = .function) {a b : Str} {pa pb p pv : Pos} {k kv} {u v : Expr} (h1 : env.scope.names.lookup a = some .local) (h2 : env.scope.names.lookup b = some .local) (hl : pb.line = pa.line) (hab : a ≠ b)
    (s1 : starB u = false) (s2 : starB v = false) (f : (foldedForSure 8 u && foldedForSure 8 v) = false) (c : (constantsAlone 8 u && constantsAlone 8 v) = false) :
    swappedStores [.Tuple [.Name a pa, .Name b pb] k p] (.Tuple [u, v] kv pv) env = pure (some [a, b]) := by
  unfold swappedStores
  have hb := bk_fn hk
  have e1 : (env.kindOf a == some NameKind.local) = true := by unfold Env.kindOf; rw [h1]; rfl
  have e2 : (env.kindOf b == some NameKind.local) = true := by unfold Env.kindOf; rw [h2]; rfl
  have ed : [a, b].eraseDups = [a, b] := by simp [List.eraseDups_cons, hab, Ne.symm hab]
  have f2 : ([u, v].all (foldedForSure 8)) = false := by simpa using f
  have c2 : ([u, v].all (constantsAlone 8)) = false := by simpa using c
  simp only [pure_bind]
  rw [if_neg (by rw [hb]; simp)]
  rw [if_neg (by
    intro h
    simp only [List.any_cons, List.any_nil, Bool.or_false, Bool.or_eq_true] at h
    rcases h with h | h
    · cases u <;> first | (cases h; done) | (cases s1; done)
    · cases v <;> first | (cases h; done) | (cases s2; done))]
  simp only [f2, c2]
  have k1 := beq_iff_eq.mp e1
  have k2 := beq_iff_eq.mp e2
  simp [List.filterMap_cons, k1, k2, hl, ed, Expr.pos]
theorem ss_par3 {env : Env} (hk : env.scope.kind = .function) {a b c : Str} {pa pb pc p pv : Pos} {k kv} {u v w : Expr} (h1 : env.scope.names.lookup a = some .local) (h2 : env.scope.names.lookup b = some .local) (h3 : env.scope.names.lookup c = some .local) (hl : pb.line = pa.line) (hl2 : pc.line = pa.line) (hab : a ≠ b) (hac : a ≠ c) (hbc : b ≠ c)
    (s1 : starB u = false) (s2 : starB v = false) (s3 : starB w = false) (f : (foldedForSure 8 u && foldedForSure 8 v && foldedForSure 8 w) = false) (cc : (constantsAlone 8 u && constantsAlone 8 v && constantsAlone 8 w) = false) :
    swappedStores [.Tuple [.Name a pa, .Name b pb, .Name c pc] k p] (.Tuple [u, v, w] kv pv) env = pure (some [a, b, c]) := by
  unfold swappedStores
  have hb := bk_fn hk
  have e1 : (env.kindOf a == some NameKind.local) = true := by unfold Env.kindOf; rw [h1]; rfl
  have e2 : (env.kindOf b == some NameKind.local) = true := by unfold Env.kindOf; rw [h2]; rfl
  have e3 : (env.kindOf c == some NameKind.local) = true := by unfold Env.kindOf; rw [h3]; rfl
  have ed : [a, b, c].eraseDups = [a, b, c] := by simp [List.eraseDups_cons, hab, hac, hbc, Ne.symm hab, Ne.symm hac, Ne.symm hbc]
  have f2 : ([u, v, w].all (foldedForSure 8)) = false := by simpa [Bool.and_assoc] using f
  have c2 : ([u, v, w].all (constantsAlone 8)) = false := by simpa [Bool.and_assoc] using cc
  simp only [pure_bind]
  rw [if_neg (by rw [hb]; simp)]
  rw [if_neg (by
    intro h
    simp only [List.any_cons, List.any_nil, Bool.or_false, Bool.or_eq_true] at h
    rcases h with h | h | h
    · cases u <;> first | (cases h; done) | (cases s1; done)
    · cases v <;> first | (cases h; done) | (cases s2; done)
    · cases w <;> first | (cases h; done) | (cases s3; done))]
  simp only [f2, c2]
  have k1 := beq_iff_eq.mp e1
  have k2 := beq_iff_eq.mp e2
  have k3 := beq_iff_eq.mp e3
  simp [List.filterMap_cons, k1, k2, k3, hl, hl2, ed, Expr.pos]
theorem ss_seq {y x : Expr} {env : Env} (h : seqB y x = true) : swappedStores [y] x env = pure none := by
  cases y <;> cases x <;> first | (cases h; done) | skip
  rename_i ts k p vs k2 p2
  simp only [seqB, Bool.or_eq_true] at h
  unfold swappedStores
  simp only [pure_bind]
  split
  · rfl
  · rename_i hn
    split
    · rfl
    · split
      · rfl
      · rcases h with (h | h) | h
        · exact (hn (by rw [h]; rfl)).elim
        · exact (hn (by rw [h]; simp)).elim
        · rw [if_pos h]
def offB (sc : Scope) : Expr → Bool | .Name id _ => !(sc.names.lookup id == some .local) | _ => true
/-- displays that are stored from the left: a name that is a cell -/
def cellB (sc : Scope) (y x : Expr) : Bool := match y, x with
  | .Tuple ts _ _, .Tuple _ _ _ => ts.any (offB sc)
  | _, _ => false
theorem filterMap_lt {α β : Type} (f : α → Option β) : ∀ (xs : List α) (x : α), x ∈ xs → f x = none → (xs.filterMap f).length < xs.length
  | y :: ys, x, h, hf => by
    rcases List.mem_cons.mp h with rfl | h
    · rw [List.filterMap_cons_none hf, List.length_cons]
      exact Nat.lt_succ_of_le (List.length_filterMap_le f ys)
    · have := filterMap_lt f ys x h hf
      rw [List.filterMap_cons]
      split
      · rw [List.length_cons]; omega
      · rw [List.length_cons, List.length_cons]; omega
theorem ss_cell {y x : Expr} {env : Env} (h : cellB env.scope y x = true) : swappedStores [y] x env = pure none := by
  cases y <;> cases x <;> first | (cases h; done) | skip
  rename_i ts k p vs k2 p2
  simp only [cellB, List.any_eq_true] at h
  obtain ⟨t, ht, h⟩ := h
  unfold swappedStores
  simp only [pure_bind]
  have key : ∀ f : Expr → Option Str, f t = none → ((ts.filterMap f).length != ts.length) = true := by
    intro f hf
    have := filterMap_lt f ts t ht hf
    rw [bne_iff_ne]
    exact Nat.ne_of_lt this
  split
  · rfl
  · split
    · rfl
    · rw [if_pos]
      rw [key _ (by
        unfold offB at h
        split at h
        · rename_i id p3
          have h' : (env.kindOf id == some NameKind.local) = false := by
            unfold Env.kindOf
            simpa using h
          simp [h']
        · rename_i hn
          cases t <;> first | rfl | exact (hn _ _ rfl).elim)]
      rfl
end Lw

set_option Elab.async false
set_option linter.all false
set_option maxRecDepth 100000
set_option maxHeartbeats 8000000
/-! Lw, part 12: statements -/
namespace Lw
open PySem L2 PySem.Spec PyProof.Rows
def isComp : Expr → Bool | .ListComp .. => true | .SetComp .. => true | .DictComp .. => true | _ => false
def isSeqE : Expr → Bool | .Tuple .. => true | _ => false
def headNo : Expr → Bool | .Tuple (.Name _ _ :: _) _ _ => false | .Tuple (_ :: _) _ _ => true | _ => false
def isSeqT : Expr → Bool | .Tuple .. => true | .List .. => true | _ => false
/-- a comprehension stored in a name: is the store inside its block -/
def swB (sc : Scope) (t : Str) (tp : Pos) (scope : Scope) (pos : Pos) : Bool :=
  (sc.names.lookup t == some .local) && (tp.line == pos.line) && !(scope.names.any fun (n, k) => n == t && (k == .local || k == .cell))
def augC : E → Expr → Bool
  | .con (.int k), .Constant c _ _ => conB (.int k) c
  | _, _ => false
mutual
def ms (g : Gm) (N : List Str) (fp : Str → Bool) (sc : Scope) : S → List Stmt → Bool
  | .nil, [] => true
  | .sq s r, st :: rest => m1 g N fp sc s st && ms g N fp sc r rest
  | _, _ => false
def m1 (g : Gm) (N : List Str) (fp : Str → Bool) (sc : Scope) : S → Stmt → Bool
  | .expr e, .Expr x _ => !isComp x && mt g N fp sc e x
  | .asg t e, .Assign [y] x _ => mtG g N fp sc t y && mt g N fp sc e x && (!isComp x || (match y, x with | .Name _ _, .ListComp .. => true | _, _ => false)) && (!(isSeqT y && isSeqE x) || headNo y || seqB y x || cellB sc y x || (parN sc y x).isSome)
  | .aug i op e, .AugAssign (.Name x _) o y _ => decide (N[i]? = some x) && locB fp sc x && decide (o = opOf op) && (match op with | .add => true | .sub => true | _ => false) && mt g N fp sc e y
  | .augF o f op e, .AugAssign (.Attribute x n _) o2 y _ => decide (n = f) && g.fds.contains f && decide (o2 = opOf op) && (match op with | .add => true | .sub => true | _ => false) && augC e y && mt g N fp sc o x
  | .ret e, .Return (some x) _ => mt g N fp sc e x
  | .retN, .Return none _ => true
  | .ite c a b, .If x ys zs _ => mt g N fp sc c x && ms g N fp sc a ys && ms g N fp sc b zs
  | .for t it b, .For y x ys [] _ => mtG g N fp sc t y && mtI g N fp sc y it x && !isSet x && ms g N fp sc b ys
  | .while c b, .While x ys [] _ => mt g N fp sc c x && ms g N fp sc b ys
  | .asgH i e, .Assign [y] x _ => mtG g N fp sc (.var i) y && mt g N fp sc e x && !isComp x && !isSeqE x
  | .forH t a b, .For y x ys [] _ => mtG g N fp sc t y && mt g N fp sc a x && !isSet x && ms g N fp sc b ys
  | .pass, .Pass _ => true
  | .stop, .Raise .. => true
  | .brk, .Break _ => true
  | .cont, .Continue _ => true
  | _, _ => false
end
section
variable {g : Gm} {cs : Nat → Option Addr} {cl : Cl} {fl : Nat → List Bool} {N : List Str} {fp : Str → Bool} {sc : Scope} {X : Cx} {K : Fg} {wf : Nat}
variable {Z Z' H H' : Hp} {ρ ρ' : List Addr} {st : St} {σ σ' : L2.St} {tm : List Th}
def Out (cs : Nat → Option Addr) (K : Fg) (D : Ends) (Z : Hp) (ρ : List Addr) (tm : List Th) (w : Flow) (s' : St) : Prop := ∀ Z' ρ' σ' H', Le Z Z' → Px ρ ρ' → match w with
  | .next => In K cs Z' ρ' H' s' σ' tm → D.nx σ' H'
  | .brk => In K cs Z' ρ' H' s' σ' tm → D.bk σ' H'
  | .cont => In K cs Z' ρ' H' s' σ' tm → D.ct σ' H'
  | .ret o => ∀ v, In K cs Z' ρ' H' s' σ' ((o, some v) :: tm) → D.rt v H'
theorem Out.mono {D : Ends} {w : Flow} {s' : St} (h : Out cs K D Z ρ tm w s') (l : Le Z Z') (p : Px ρ ρ') : Out cs K D Z' ρ' tm w s' := fun Z2 ρ2 σ2 H2 l2 p2 => h Z2 ρ2 σ2 H2 (l.trans l2) (p.trans p2)
def rdS (cs : Nat → Option Addr) (cl : Cl) (fl : Nat → List Bool) (wf : Nat) (K : Fg) (s : S) : TS := fun D σ H => ∃ Z ρ st tm, In K cs Z ρ H st σ tm ∧ W (ex cl fl wf s st) (Out cs K D Z ρ tm)
theorem s_nil {D : Ends} (h : rdS cs cl fl wf K .nil D σ H) : tNext D σ H := by
  obtain ⟨Z, ρ, st, tm, I, F⟩ := h
  unfold ex at F
  exact F Z ρ σ H (Le.refl _) (Px.refl _) I
theorem s_pass {D : Ends} (h : rdS cs cl fl wf K .pass D σ H) : tNext D σ H := by
  obtain ⟨Z, ρ, st, tm, I, F⟩ := h
  unfold ex at F
  exact F Z ρ σ H (Le.refl _) (Px.refl _) I
theorem s_brk {D : Ends} (h : rdS cs cl fl wf K .brk D σ H) : tBreak D σ H := by
  obtain ⟨Z, ρ, st, tm, I, F⟩ := h
  unfold ex at F
  exact F Z ρ σ H (Le.refl _) (Px.refl _) I
theorem s_cont {D : Ends} (h : rdS cs cl fl wf K .cont D σ H) : tCont D σ H := by
  obtain ⟨Z, ρ, st, tm, I, F⟩ := h
  unfold ex at F
  exact F Z ρ σ H (Le.refl _) (Px.refl _) I
theorem s_retN {D : Ends} (h : rdS cs cl fl wf K .retN D σ H) : tRetN D σ H := by
  obtain ⟨Z, ρ, st, tm, I, F⟩ := h
  unfold ex at F
  exact F Z ρ σ H (Le.refl _) (Px.refl _) .non (I.dat rd_non)
theorem s_sq {a b : S} {D : Ends} (h : rdS cs cl fl wf K (.sq a b) D σ H) : tSeq (rdS cs cl fl wf K a) (rdS cs cl fl wf K b) D σ H := by
  obtain ⟨Z, ρ, st, tm, I, F⟩ := h
  unfold ex at F
  refine ⟨Z, ρ, st, tm, I, (W_bind.mp F).mono fun w s1 F => ?_⟩
  cases w with
  | next => exact fun Z1 ρ1 σ1 H1 l p I1 => ⟨Z1, ρ1, s1, tm, I1, F.mono fun w s2 F => F.mono l p⟩
  | brk => exact F
  | cont => exact F
  | ret o => exact F
theorem s_expr {e : E} {D : Ends} (h : rdS cs cl fl wf K (.expr e) D σ H) : tDrop (rdE cs cl fl K e) D σ H := by
  obtain ⟨Z, ρ, st, tm, I, F⟩ := h
  unfold ex at F
  exact ⟨Z, ρ, st, tm, I, (W_bind.mp F).mono fun x s1 F Z1 ρ1 v H1 l p I1 hx => F Z1 ρ1 σ H1 l p I1.drops⟩
theorem s_asg {t e : E} {D : Ends} (h : rdS cs cl fl wf K (.asg t e) D σ H) : tAsg (rdE cs cl fl K e) (rdG cs cl fl K t) D σ H := by
  obtain ⟨Z, ρ, st, tm, I, F⟩ := h
  unfold ex at F
  refine ⟨Z, ρ, st, tm, I, (W_bind.mp F).mono fun x s1 F Z1 ρ1 v H1 l p I1 hx => ?_⟩
  obtain ⟨Z2, o, s2, l2, I2, F⟩ := take_ok (W_bind.mp F) I1 hx
  exact ⟨Z2, ρ1, s2, tm, o, I2, (W_bind.mp F).mono fun _ s3 F Z3 ρ3 σ3 H3 l3 p3 m3 I3 => F Z3 ρ3 σ3 H3 (l.trans (l2.trans l3)) (p.trans p3) I3⟩
theorem asgs0_len {xs : List D} {s : St} {G : Unit → St → Prop} (h : W (asgs cl fl .nil xs s) G) : xs.length = 0 := by
  cases xs with
  | nil => rfl
  | cons x xs => unfold asgs at h; exact h.elim
theorem asgsC_len {e es : E} {xs : List D} {n : Nat} {s : St} {G : Unit → St → Prop} (k : ∀ xs s G, W (asgs cl fl es xs s) G → xs.length = n) (h : W (asgs cl fl (.cons e es) xs s) G) : xs.length = n + 1 := by
  cases xs with
  | nil => unfold asgs at h; exact h.elim
  | cons x xs =>
    unfold asgs at h
    obtain ⟨s1, F⟩ : ∃ s1, W (asgs cl fl es xs s1) G := by
      have h := W_bind.mp h
      revert h
      generalize asg cl fl e (.d x) s = r
      intro h
      cases r with
      | ok a s' => exact ⟨s', h⟩
      | exc c v s' => exact h.elim
      | bad => exact h.elim
    rw [List.length_cons, k _ _ _ F]
theorem asgs2_len {a b : E} {xs : List D} {s : St} {G : Unit → St → Prop} (h : W (asgs cl fl (.cons a (.cons b .nil)) xs s) G) : xs.length = 2 := asgsC_len (fun xs s G h => asgsC_len (fun xs s G h => asgs0_len h) h) h
theorem asgs3_len {a b c : E} {xs : List D} {s : St} {G : Unit → St → Prop} (h : W (asgs cl fl (.cons a (.cons b (.cons c .nil))) xs s) G) : xs.length = 3 := asgsC_len (fun xs s G h => asgs2_len h) h
theorem rdE_mono {e : E} {Q Q' : VK} (h : rdE cs cl fl K e σ H Q) (k : ∀ v H', Q v H' → Q' v H') : rdE cs cl fl K e σ H Q' := by
  obtain ⟨Z, ρ, st, tm, I, F⟩ := h
  exact ⟨Z, ρ, st, tm, I, F.mono fun x s F Z' ρ' v H' l p I' hx => k _ _ (F Z' ρ' v H' l p I' hx)⟩
theorem s_par2 {i j : Nat} {e : E} {D : Ends} (h : rdS cs cl fl wf K (.asg (.tup (.cons (.var i) (.cons (.var j) .nil))) e) D σ H) : tPar2 K i j (rdE cs cl fl K e) D σ H := by
  refine rdE_mono (s_asg h) fun v H1 q => ?_
  obtain ⟨a, xs, ea, hT, _, q1⟩ := g_tup (n := 2) (fun xs s G w => asgs2_len w) q
  obtain ⟨v1, r1, e1, q2⟩ := gs_cons q1
  obtain ⟨v2, r2, e2, q3⟩ := gs_cons (g_var q2)
  obtain ⟨e3, q4⟩ := gs_nil (g_var q3)
  subst e1; subst e2; subst e3
  exact ⟨a, v1, v2, ea, hT, q4⟩
theorem s_par3 {i j k : Nat} {e : E} {D : Ends} (h : rdS cs cl fl wf K (.asg (.tup (.cons (.var i) (.cons (.var j) (.cons (.var k) .nil)))) e) D σ H) : tPar3 K i j k (rdE cs cl fl K e) D σ H := by
  refine rdE_mono (s_asg h) fun v H1 q => ?_
  obtain ⟨a, xs, ea, hT, _, q1⟩ := g_tup (n := 3) (fun xs s G w => asgs3_len w) q
  obtain ⟨v1, r1, e1, q2⟩ := gs_cons q1
  obtain ⟨v2, r2, e2, q3⟩ := gs_cons (g_var q2)
  obtain ⟨v3, r3, e3, q4⟩ := gs_cons (g_var q3)
  obtain ⟨e4, q5⟩ := gs_nil (g_var q4)
  subst e1; subst e2; subst e3; subst e4
  exact ⟨a, v1, v2, v3, ea, hT, q5⟩
theorem s_ret {e : E} {D : Ends} (h : rdS cs cl fl wf K (.ret e) D σ H) : tRet (rdE cs cl fl K e) D σ H := by
  obtain ⟨Z, ρ, st, tm, I, F⟩ := h
  unfold ex at F
  refine ⟨Z, ρ, st, tm, I, (W_bind.mp F).mono fun x s1 F Z1 ρ1 v H1 l p I1 hx => ?_⟩
  obtain ⟨o, s2, I2, F⟩ := moveM_ok (W_bind.mp F) I1 hx
  exact F Z1 ρ1 σ H1 l p v I2
theorem s_ite {c : E} {a b : S} {D : Ends} (h : rdS cs cl fl wf K (.ite c a b) D σ H) : tIfS (rdT cs cl fl K c) (rdS cs cl fl wf K a) (rdS cs cl fl wf K b) D σ H := by
  obtain ⟨Z, ρ, st, tm, I, F⟩ := h
  unfold ex at F
  refine ⟨Z, ρ, st, tm, I, W_bind.mpr ((W_bind.mp F).mono fun x s1 F => (W_bind.mp F).mono fun k s2 F Z1 ρ1 H1 l p I1 => ?_)⟩
  cases k with
  | true => exact ⟨Z1, ρ1, s2, tm, I1, F.mono fun w s F => F.mono l p⟩
  | false => exact ⟨Z1, ρ1, s2, tm, I1, F.mono fun w s F => F.mono l p⟩
theorem s_augF {op : Bop} {h0 : Int → Int → Int} (hf : ∀ a b, augI op a b = some (h0 a b)) {rd : V → V → Hp → VK → Prop} (hrd : ∀ i j H (Q : VK), Q (.int (h0 i j)) H → rd (.int i) (.int j) H Q) {o : E} {f : Str} {k : Int} {D : Ends} (hfl : ∀ c C, cs c = some C → Cls K C ∧ NoAttr K C f)
    (h : rdS cs cl fl wf K (.augF o f op (.con (.int k))) D σ H) : sFldAug K (rdE cs cl fl K o) (tC (.int k)) rd f D σ H := by
  obtain ⟨Z, ρ, st, tm, I, F⟩ := h
  unfold ex at F
  refine ⟨Z, ρ, st, tm, I, (W_bind.mp F).mono fun x s1 F Z1 ρ1 v H1 l p I1 hx => ?_⟩
  obtain ⟨a, dx, C, fs, c, y, u, e, ha, hc, hl, hr, I2, F⟩ := fldOf_ok (W_bind.mp F) I1
  obtain ⟨k1, k2⟩ := hfl c C hc
  unfold hd at F
  have F := W_bind.mp F
  have F : W ((intOf (.tmp (.d y))).bind (fun a => (intOf (.tmp (.d (.int k)))).bind fun b => (opt (augI op a b)).bind fun r => (setFld x f (.int r)).bind fun _ => ret .next) s1) (Out cs K D Z ρ tm) := F
  obtain ⟨i, ei, I3, F⟩ := intOf_ok (x := .tmp (.d y)) (v := u) (W_bind.mp F) (I1.dat hr)
  have F : W ((opt (augI op i k)).bind (fun r => (setFld x f (.int r)).bind fun _ => ret .next) s1) (Out cs K D Z ρ tm) := W_bind.mp F
  obtain ⟨r, er, F⟩ := W_opt (W_bind.mp F)
  rw [hf] at er
  cases er
  obtain ⟨a', dx', C', fs', c', e', ha', hc', hl', s5, F, I5⟩ := setFld_ok (w := .int (h0 i k)) (W_bind.mp F) I3 (rd_int _)
  subst ei
  subst e
  cases e'
  rw [ha] at ha'
  cases ha'
  refine ⟨a, C, dx, fs, .int i, rfl, ha, k1, k2, hl, ?_⟩
  show rd (.int i) (.int k) H1 _
  exact hrd i k H1 _ ⟨dx, fs, ha, hl', F Z1 ρ1 σ _ l p I5⟩
theorem s_aug {i : Nat} {op : Bop} {f : Int → Int → Int} (hf : ∀ a b, augI op a b = some (f a b)) {e : E} {D : Ends} (h : rdS cs cl fl wf K (.aug i op e) D σ H) : tAug i (rdE cs cl fl K e) (ipI f) D σ H := by
  obtain ⟨Z, ρ, st, tm, I, F⟩ := h
  unfold ex at F
  refine i_var (cs := cs) (cl := cl) (fl := fl) (K := K) (Q := fun v H1 => rdE cs cl fl K e σ H1 fun y H2 => ipI f v y H2 fun z H3 => D.nx (σ.set i (some z)) H3) ⟨Z, ρ, st, tm, I, (W_bind.mp F).mono fun x s1 F Z1 ρ1 v H1 l p I1 hx => ⟨Z1, ρ1, s1, _, I1, (W_bind.mp F).mono fun y s2 F Z2 ρ2 u H2 l2 p2 I2 hy => ?_⟩⟩
  obtain ⟨a, ea, I3, F⟩ := intOf_ok (W_bind.mp F) I2.comm
  obtain ⟨b, eb, I4, F⟩ := intOf_ok (W_bind.mp F) I3
  obtain ⟨r, er, F⟩ := W_opt (W_bind.mp F)
  rw [hf] at er
  cases er
  refine ⟨a, b, ea, eb, ?_⟩
  have F := W_bind.mp F
  have q : rdG cs cl fl K (.var i) (.int (f a b)) σ H2 (fun σ' H' => D.nx σ' H') := ⟨Z2, ρ2, s2, tm, _, I4.dat (rd_int _), F.mono fun _ s3 F Z3 ρ3 σ3 H3 l3 p3 m3 I5 => F Z3 ρ3 σ3 H3 (l.trans (l2.trans l3)) (p.trans (p2.trans p3)) I5⟩
  exact g_var q
/-- the ends of a loop's body -/
theorem s_for {t it : E} {b : S} {D : Ends} (h : rdS cs cl fl wf K (.for t it b) D σ H) : tFor (rdI cs cl fl K it) (rdG cs cl fl K t) (rdS cs cl fl wf K b) D σ H := by
  obtain ⟨Z, ρ, st, tm, I, F⟩ := h
  unfold ex at F
  refine ⟨Z, ρ, st, tm, I, (W_bind.mp F).mono fun xs s1 F Z1 ρ1 H1 J l1 p1 I1 ok => ?_⟩
  refine ⟨fun i m σ' H' => m = xs.length - i ∧ i ≤ xs.length ∧ ∃ Z2 ρ2 s2, Le Z1 Z2 ∧ Px ρ1 ρ2 ∧ In K cs Z2 ρ2 H' s2 σ' tm ∧ W (forL (fun x => (asg cl fl t (.d x)).bind fun _ => ex cl fl wf b) (xs.drop i) s2) (Out cs K D Z ρ tm),
    ⟨xs.length, by simp, Nat.zero_le _, Z1, ρ1, s1, Le.refl _, Px.refl _, I1, F⟩, ?_⟩
  rintro i m σ2 H2 ⟨rfl, hi, Z2, ρ2, s2, l2, p2, I2, F2⟩
  by_cases hlt : i < xs.length
  · right
    refine ⟨ok.go i H2 (l2.trans I2.rel.le) hlt, _, fun σ' H' N => ⟨_, Nat.sub_lt_sub_left hlt (Nat.lt_succ_self i), N⟩, fun x H3 hy => ?_⟩
    obtain ⟨d, hd⟩ : ∃ d, xs[i]? = some d := ⟨xs[i], List.getElem?_eq_getElem hlt⟩
    have ed : xs.drop i = d :: xs.drop (i + 1) := by
      rw [List.drop_eq_getElem_cons hlt]
      rw [List.getElem?_eq_getElem hlt] at hd
      cases hd; rfl
    rw [ed] at F2
    unfold forL at F2
    have F2 := W_bind.mp F2
    have item : ∃ Z3, Le Z2 Z3 ∧ In K cs Z3 ρ2 H3 s2 σ2 ((.d d, some x) :: tm) := by
      rcases ok.yld i H2 x H3 d (l2.trans I2.rel.le) hy hd with ⟨e1, r⟩ | ⟨p, ds, vs, e1, e2, hp, e3, r⟩
      · subst e1
        exact ⟨Z2, Le.refl _, I2.dat (RD.mono l2 p2 _ _ r)⟩
      · subst e1; subst e2; subst e3
        obtain ⟨l, R⟩ := I2.rel.newT hp (RDs.mono l2 p2 _ _ r)
        exact ⟨_, l, .back I2.len R⟩
    obtain ⟨Z3, l3, I3⟩ := item
    refine ⟨Z3, ρ2, _, _, .d d, I3, (W_bind.mp F2).mono fun _ s3 F3 Z4 ρ4 σ4 H4 l4 p4 m4 I4 => ⟨Z4, ρ4, s3, tm, I4, F3.mono fun w s5 F5 => ?_⟩⟩
    have lz : Le Z Z4 := l1.trans (l2.trans (l3.trans l4))
    have pz : Px ρ ρ4 := p1.trans (p2.trans p4)
    cases w with
    | next => exact fun Z5 ρ5 σ5 H5 l5 p5 I5 => ⟨rfl, hlt, Z5, ρ5, s5, l2.trans (l3.trans (l4.trans l5)), p2.trans (p4.trans p5), I5, F5⟩
    | cont => exact fun Z5 ρ5 σ5 H5 l5 p5 I5 => ⟨rfl, hlt, Z5, ρ5, s5, l2.trans (l3.trans (l4.trans l5)), p2.trans (p4.trans p5), I5, F5⟩
    | brk => exact fun Z5 ρ5 σ5 H5 l5 p5 I5 => F5 Z5 ρ5 σ5 H5 (lz.trans l5) (pz.trans p5) I5
    | ret o => exact fun Z5 ρ5 σ5 H5 l5 p5 v I5 => F5 Z5 ρ5 σ5 H5 (lz.trans l5) (pz.trans p5) v I5
  · left
    have ei : i = xs.length := by omega
    subst ei
    refine ⟨ok.stop _ H2 (l2.trans I2.rel.le) (Nat.le_refl _), ?_⟩
    rw [List.drop_length] at F2
    unfold forL at F2
    exact F2 Z2 ρ2 σ2 H2 (l1.trans l2) (p1.trans p2) I2
theorem s_asgH {i : Nat} {e : E} {D : Ends} (h : rdS cs cl fl wf K (.asgH i e) D σ H) : tAsg (rdE cs cl fl K e) (rdG cs cl fl K (.var i)) D σ H := by
  obtain ⟨Z, ρ, st, tm, I, F⟩ := h
  unfold ex at F
  refine ⟨Z, ρ, st, tm, I, (W_bind.mp F).mono fun x s1 F Z1 ρ1 v H1 l p I1 hx => ?_⟩
  obtain ⟨Z2, ρ2, o, s2, l2, p2, I2, F⟩ := argM_ok (W_bind.mp F) I1 hx
  exact ⟨Z2, ρ2, s2, tm, o, I2, (W_bind.mp F).mono fun _ s3 F Z3 ρ3 σ3 H3 l3 p3 m3 I3 => F Z3 ρ3 σ3 H3 (l.trans (l2.trans l3)) (p.trans (p2.trans p3)) I3⟩
theorem In.objL {n : Nat} {xs : List D} {a : Addr} (I : In K cs Z ρ H st σ tm) (h : st.h[n]? = some (.lst xs)) (ha : ρ[n]? = some a) : ∃ vs, H a = some (.lst vs) ∧ RDs K Z ρ xs vs := by
  obtain ⟨a', vs, e, hl, r, _⟩ := (I.rel.takeH h ha).openL
  cases e
  exact ⟨vs, hl, r⟩
theorem s_forH {t it : E} {b : S} {D : Ends} (h : rdS cs cl fl wf K (.forH t it b) D σ H) : tFor (iList K (rdE cs cl fl K it)) (rdG cs cl fl K t) (rdS cs cl fl wf K b) D σ H := by
  obtain ⟨Z, ρ, st, tm, I, F⟩ := h
  unfold ex at F
  refine ⟨Z, ρ, st, tm, I, (W_bind.mp F).mono fun x s1 F Z1 ρ1 v H1 l1 p1 I1 hx => ?_⟩
  unfold openH at F
  split at F
  rotate_left
  · exact F.elim
  rename_i n
  have F : W ((fun s : St => match s.h[n]? with | some (.lst xs) => walkH (fun y => (asg cl fl t (.d y)).bind fun _ => ex cl fl wf b) n 0 xs.length s | _ => .bad) s1) (Out cs K D Z ρ tm) := F
  dsimp only at F
  split at F
  rotate_left
  · exact F.elim
  rename_i xs0 hn
  have r := In.rd (tm := tm) I1
  unfold RD at r
  obtain ⟨a, ha, rfl⟩ := r
  have I1 := In.drop (tm := tm) I1
  obtain ⟨vs0, hv0, r0⟩ := I1.objL hn ha
  refine ⟨a, rfl, ⟨vs0, SqL.of hv0⟩, ?_⟩
  refine ⟨fun i m σ' H' => ∃ Z2 ρ2 s2, Le Z1 Z2 ∧ Px ρ1 ρ2 ∧ In K cs Z2 ρ2 H' s2 σ' tm ∧ W (walkH (fun y => (asg cl fl t (.d y)).bind fun _ => ex cl fl wf b) n i m s2) (Out cs K D Z ρ tm), ⟨xs0.length, Z1, ρ1, s1, Le.refl _, Px.refl _, I1, F⟩, ?_⟩
  rintro i m σ2 H2 ⟨Z2, ρ2, s2, l2, p2, I2, F2⟩
  have ha2 := p2.at ha
  cases m with
  | zero =>
    left
    unfold walkH at F2
    split at F2
    rotate_left
    · exact F2.elim
    rename_i ys hy
    obtain ⟨vs, hv, r⟩ := I2.objL hy ha2
    split at F2
    rotate_left
    · exact F2.elim
    rename_i hl
    have hl := of_decide_eq_true hl
    exact ⟨⟨vs, SqL.of hv, by rw [← r.length, hl]; exact Nat.le_refl _⟩, F2 Z2 ρ2 σ2 H2 (l1.trans l2) (p1.trans p2) I2⟩
  | succ m =>
    right
    unfold walkH at F2
    split at F2
    rotate_left
    · exact F2.elim
    rename_i ys hy
    obtain ⟨vs, hv, r⟩ := I2.objL hy ha2
    split at F2
    rotate_left
    · exact F2.elim
    rename_i d hd
    obtain ⟨u, hu, ru⟩ := r.at hd
    refine ⟨⟨vs, u, SqL.of hv, hu⟩, _, fun σ' H' N => ⟨m, Nat.lt_succ_self m, N⟩, fun x H3 hy2 => ?_⟩
    obtain ⟨rfl, hx2⟩ := hy2
    have ex2 := hx2 vs (SqL.of hv)
    rw [hu] at ex2
    cases ex2
    refine ⟨Z2, ρ2, s2, tm, .d d, I2.dat ru, (W_bind.mp (W_bind.mp F2)).mono fun _ s3 F3 Z4 ρ4 σ4 H4 l4 p4 m4 I4 => ⟨Z4, ρ4, s3, tm, I4, F3.mono fun w s5 F5 => ?_⟩⟩
    have lz : Le Z Z4 := l1.trans (l2.trans l4)
    have pz : Px ρ ρ4 := p1.trans (p2.trans p4)
    cases w with
    | next => exact fun Z5 ρ5 σ5 H5 l5 p5 I5 => ⟨Z5, ρ5, s5, l2.trans (l4.trans l5), p2.trans (p4.trans p5), I5, F5⟩
    | cont => exact fun Z5 ρ5 σ5 H5 l5 p5 I5 => ⟨Z5, ρ5, s5, l2.trans (l4.trans l5), p2.trans (p4.trans p5), I5, F5⟩
    | brk => exact fun Z5 ρ5 σ5 H5 l5 p5 I5 => F5 Z5 ρ5 σ5 H5 (lz.trans l5) (pz.trans p5) I5
    | ret o => exact fun Z5 ρ5 σ5 H5 l5 p5 v I5 => F5 Z5 ρ5 σ5 H5 (lz.trans l5) (pz.trans p5) v I5
theorem s_while {c : E} {b : S} {D : Ends} (h : rdS cs cl fl wf K (.while c b) D σ H) : tWhile (rdT cs cl fl K c) (rdS cs cl fl wf K b) D σ H := by
  obtain ⟨Z, ρ, st, tm, I, F⟩ := h
  unfold ex at F
  refine ⟨fun m σ' H' => ∃ Z2 ρ2 s2, Le Z Z2 ∧ Px ρ ρ2 ∧ In K cs Z2 ρ2 H' s2 σ' tm ∧ W (whileN ((hd cl fl c).bind truth) (ex cl fl wf b) m s2) (Out cs K D Z ρ tm), ⟨wf, Z, ρ, st, Le.refl _, Px.refl _, I, F⟩, ?_⟩
  rintro m σ2 H2 ⟨Z2, ρ2, s2, l2, p2, I2, F2⟩
  cases m with
  | zero => exact F2.elim
  | succ m =>
    unfold whileN at F2
    refine ⟨Z2, ρ2, s2, tm, I2, (W_bind.mp F2).mono fun k s3 F3 Z3 ρ3 H3 l3 p3 I3 => ?_⟩
    cases k with
    | false => exact F3 Z3 ρ3 σ2 H3 (l2.trans l3) (p2.trans p3) I3
    | true =>
      refine ⟨_, fun σ' H' N => ⟨m, Nat.lt_succ_self m, N⟩, Z3, ρ3, s3, tm, I3, (W_bind.mp F3).mono fun w s5 F5 => ?_⟩
      have lz : Le Z Z3 := l2.trans l3
      have pz : Px ρ ρ3 := p2.trans p3
      cases w with
      | next => exact fun Z5 ρ5 σ5 H5 l5 p5 I5 => ⟨Z5, ρ5, s5, lz.trans l5, pz.trans p5, I5, F5⟩
      | cont => exact fun Z5 ρ5 σ5 H5 l5 p5 I5 => ⟨Z5, ρ5, s5, lz.trans l5, pz.trans p5, I5, F5⟩
      | brk => exact fun Z5 ρ5 σ5 H5 l5 p5 I5 => F5 Z5 ρ5 σ5 H5 (lz.trans l5) (pz.trans p5) I5
      | ret o => exact fun Z5 ρ5 σ5 H5 l5 p5 v I5 => F5 Z5 ρ5 σ5 H5 (lz.trans l5) (pz.trans p5) v I5
theorem PS.imp {e : Stmt} {t t' : TS} (h : PS X e t) (k : ∀ D σ H, t' D σ H → t D σ H) : PS X e t' := ⟨fun pins s σ H D I q => h.run pins s σ H D I (k _ _ _ q)⟩
theorem PSs.imp {e : List Stmt} {t t' : TS} (h : PSs X e t) (k : ∀ D σ H, t' D σ H → t D σ H) : PSs X e t' := ⟨fun pins s σ H D I q => h.run pins s σ H D I (k _ _ _ q)⟩
theorem sw_none {x : Expr} {o : Option Expr} {l : Nat} {env : Env} (h : isComp x = false) : swapsWith x o l env = pure false := by
  cases x <;> first | rfl | cases h
theorem ss_none {y x : Expr} {env : Env} (h : (isSeqT y && isSeqE x) = false) : swappedStores [y] x env = pure none := by
  cases y <;> cases x <;> first | rfl | cases h
theorem ss_head {y x : Expr} {env : Env} (h : headNo y = true) : swappedStores [y] x env = pure none := by
  cases y <;> first | (cases h; done) | skip
  rename_i ts k p
  cases ts with
  | nil => cases h
  | cons t ts =>
    cases x <;> first | rfl | skip
    rename_i vs k2 p2
    unfold swappedStores
    simp only [pure_bind]
    have key : ∀ f : Expr → Option Str, f t = none → (((t :: ts).filterMap f).length != (t :: ts).length) = true := by
      intro f hf
      rw [List.filterMap_cons_none hf]
      have := List.length_filterMap_le f ts
      rw [List.length_cons]
      simp
      omega
    split
    · rfl
    · split
      · rfl
      · rw [if_pos]
        rw [key _ (by cases t <;> first | rfl | cases h)]
        rfl
theorem ss_any {y x : Expr} {env : Env} (h : (!(isSeqT y && isSeqE x) || headNo y || seqB y x || cellB env.scope y x) = true) : swappedStores [y] x env = pure none := by
  rw [Bool.or_eq_true, Bool.or_eq_true, Bool.or_eq_true] at h
  rcases h with ((h | h) | h) | h
  · exact ss_none (by rwa [Bool.not_eq_true'] at h)
  · exact ss_head h
  · exact ss_seq h
  · exact ss_cell h
/-- all that is shown of a statement -/
structure Ss (g : Gm) (cs : Nat → Option Addr) (cl : Cl) (fl : Nat → List Bool) (wf : Nat) (s : S) (N : List Str) (fp : Str → Bool) (sc : Scope) (X : Cx) : Prop where
  one : ∀ st, m1 g N fp sc s st = true → PS X st (rdS cs cl fl wf X.K s)
  all : ∀ sts, ms g N fp sc s sts = true → PSs X sts (rdS cs cl fl wf X.K s)
theorem Ss.of {s : S} (one : ∀ st, m1 g N fp sc s st = true → PS X st (rdS cs cl fl wf X.K s)) (h : ∀ sts, ms g N fp sc s sts = false) : Ss g cs cl fl wf s N fp sc X where
  one := one
  all := fun sts h2 => by rw [h] at h2; cases h2
theorem sw_false {elt : Expr} {gs : List Comprehension} {scope : Scope} {pos tp : Pos} {t : Str} {l : Nat} {env : Env} (h : swB env.scope t tp scope pos = false) : swapsWith (.ListComp elt gs scope pos) (some (.Name t tp)) l env = pure false := by
  unfold swapsWith
  have e : (env.blockKind == ScopeKind.function && env.kindOf t == some NameKind.local && tp.line == (Expr.ListComp elt gs scope pos).pos.line && !(scope.names.any fun (n, k) => n == t && (k == .local || k == .cell))) = false := by
    unfold swB at h
    unfold Env.kindOf
    rw [Bool.and_assoc, Bool.and_assoc, ← Bool.and_assoc (env.scope.names.lookup t == some NameKind.local)]
    show (_ && (env.scope.names.lookup t == some NameKind.local && tp.line == pos.line && !(scope.names.any fun (n, k) => n == t && (k == .local || k == .cell)))) = false
    rw [h, Bool.and_false]
  show (pure (env.blockKind == ScopeKind.function && env.kindOf t == some NameKind.local && tp.line == (Expr.ListComp elt gs scope pos).pos.line && !(scope.names.any fun (n, k) => n == t && (k == .local || k == .cell))) : Sem Bool) = pure false
  rw [e]
theorem sw_yes {elt : Expr} {gs : List Comprehension} {scope : Scope} {pos tp : Pos} {t : Str} {l : Nat} {env : Env} (hk : env.scope.kind = .function) (h : swB env.scope t tp scope pos = true) : env.scope.names.lookup t = some .local ∧ swapsWith (.ListComp elt gs scope pos) (some (.Name t tp)) l env = pure true := by
  unfold swB at h
  simp only [Bool.and_eq_true, Bool.not_eq_true', beq_iff_eq] at h
  refine ⟨h.1.1, sw_true hk h.1.1 (by rw [beq_iff_eq]; exact h.1.2) h.2⟩
theorem ss_sq {a b : S} (A : Ss g cs cl fl wf a N fp sc X) (B : Ss g cs cl fl wf b N fp sc X) : Ss g cs cl fl wf (.sq a b) N fp sc X where
  one := fun st h => by cases st <;> simp [m1] at h
  all := fun sts h => by
    cases sts <;> first | (simp [ms] at h; done) | skip
    simp only [ms, Bool.and_eq_true] at h
    exact Lw.PSs.imp (pss_cons (A.one _ h.1) (B.all _ h.2)) fun D σ H q => s_sq q
theorem ss_nil : Ss g cs cl fl wf .nil N fp sc X where
  one := fun st h => by cases st <;> simp [m1] at h
  all := fun sts h => by
    cases sts <;> first | (simp [ms] at h; done) | skip
    exact Lw.PSs.imp pss_nil fun D σ H q => s_nil q
theorem tup2_of {es : E} {a b : Expr} (h : mtGs g N fp sc es [a, b] = true) : ∃ e1 e2, es = .cons e1 (.cons e2 .nil) ∧ mtG g N fp sc e1 a = true ∧ mtG g N fp sc e2 b = true := by
  cases es <;> first | (simp [mtGs] at h; done) | skip
  rename_i e1 es
  simp only [mtGs, Bool.and_eq_true] at h
  obtain ⟨h1, h⟩ := h
  cases es <;> first | (simp [mtGs] at h; done) | skip
  rename_i e2 es
  simp only [mtGs, Bool.and_eq_true] at h
  obtain ⟨h2, h⟩ := h
  cases es <;> first | (simp [mtGs] at h; done) | skip
  exact ⟨e1, e2, rfl, h1, h2⟩
theorem tup3_of {es : E} {a b c : Expr} (h : mtGs g N fp sc es [a, b, c] = true) : ∃ e1 e2 e3, es = .cons e1 (.cons e2 (.cons e3 .nil)) ∧ mtG g N fp sc e1 a = true ∧ mtG g N fp sc e2 b = true ∧ mtG g N fp sc e3 c = true := by
  cases es <;> first | (simp [mtGs] at h; done) | skip
  rename_i e1 es
  simp only [mtGs, Bool.and_eq_true] at h
  obtain ⟨h1, h⟩ := h
  obtain ⟨e2, e3, rfl, h2, h3⟩ := tup2_of h
  exact ⟨e1, e2, e3, rfl, h1, h2, h3⟩
theorem var_of {e : E} {a : Str} {pa : Pos} (h : mtG g N fp sc e (.Name a pa) = true) : ∃ i, e = .var i ∧ N[i]? = some a := by
  cases e <;> first | (simp [mtG] at h; done) | skip
  rename_i i
  simp only [mtG, Bool.and_eq_true, decide_eq_true_eq] at h
  exact ⟨i, rfl, h.1⟩
theorem ss_par (O : XOk g cs cl fl N fp sc X) (hk : X.env.scope.kind = .function) {t e : E} {y x : Expr} {pos : Pos} (h1 : mtG g N fp sc t y = true) (pe : PE X x (rdE cs cl fl X.K e)) (h : (parN sc y x).isSome = true) : PS X (.Assign [y] x pos) (rdS cs cl fl wf X.K (.asg t e)) := by
  have nd : X.N.Nodup := by rw [O.hN]; exact O.nd
  have ne : ∀ {i j : Nat} {a b : Str}, N[i]? = some a → N[j]? = some b → a ≠ b → i ≠ j := by
    intro i j a b h1 h2 h3 h4
    subst h4
    rw [h1] at h2
    cases h2
    exact h3 rfl
  unfold parN at h
  split at h
  · rename_i a pa b pb k p u v kv pv
    split at h
    · rename_i hc
      simp only [Bool.and_eq_true, decide_eq_true_eq, beq_iff_eq, Bool.not_eq_true'] at hc
      obtain ⟨⟨⟨⟨⟨⟨⟨c1, c2⟩, c3⟩, c4⟩, c5⟩, c6⟩, c7⟩, c8⟩ := hc
      rw [← O.sc] at c1 c2
      cases t <;> first | (simp [mtG] at h1; done) | skip
      rename_i es
      simp only [mtG] at h1
      obtain ⟨e1, e2, rfl, m1, m2⟩ := tup2_of h1
      obtain ⟨i, rfl, hi⟩ := var_of m1
      obtain ⟨j, rfl, hj⟩ := var_of m2
      exact Lw.PS.imp (ps_par2 O.calm nd (by rw [O.hN]; exact hi) (by rw [O.hN]; exact hj) (ne hi hj c4) c1 c2 pe (ss_par2 hk c1 c2 c3 c4 c5 c6 c7 c8) rfl) fun D σ H q => s_par2 q
    · cases h
  · rename_i a pa b pb c pc k p u v w kv pv
    split at h
    · rename_i hc
      simp only [Bool.and_eq_true, decide_eq_true_eq, beq_iff_eq, Bool.not_eq_true'] at hc
      obtain ⟨⟨⟨⟨⟨⟨⟨⟨⟨⟨⟨⟨c1, c2⟩, c3⟩, c4⟩, c5⟩, c6⟩, c7⟩, c8⟩, c9⟩, c10⟩, c11⟩, c12⟩, c13⟩ := hc
      rw [← O.sc] at c1 c2 c3
      cases t <;> first | (simp [mtG] at h1; done) | skip
      rename_i es
      simp only [mtG] at h1
      obtain ⟨e1, e2, e3, rfl, m1, m2, m3⟩ := tup3_of h1
      obtain ⟨i, rfl, hi⟩ := var_of m1
      obtain ⟨j, rfl, hj⟩ := var_of m2
      obtain ⟨k2, rfl, hk2⟩ := var_of m3
      exact Lw.PS.imp (ps_par3 O.calm nd (by rw [O.hN]; exact hi) (by rw [O.hN]; exact hj) (by rw [O.hN]; exact hk2) (ne hi hj c6) (ne hi hk2 c7) (ne hj hk2 c8) c1 c2 c3 pe (ss_par3 hk c1 c2 c3 c4 c5 c6 c7 c8 c9 c10 c11 c12 c13) rfl) fun D σ H q => s_par3 q
    · cases h
  · cases h
theorem ss_asg (O : XOk g cs cl fl N fp sc X) (hk : X.env.scope.kind = .function) {t e : E} : Ss g cs cl fl wf (.asg t e) N fp sc X := by
  refine Ss.of (fun st h => ?_) (fun sts => by cases sts <;> simp [ms])
  cases st <;> first | (simp [m1] at h; done) | skip
  rename_i ys x pos
  rcases ys with _ | ⟨y, _ | ⟨y2, ys⟩⟩ <;> first | (simp [m1] at h; done) | skip
  unfold m1 at h
  simp only [Bool.and_eq_true, Bool.not_eq_true'] at h
  obtain ⟨⟨⟨h1, h2⟩, h3⟩, h4⟩ := h
  have pe := ((sd e fp sc X O).ev x h2).1
  have pg := (sd t fp sc X O).tg y h1
  by_cases hc : isComp x = true
  · simp only [hc, Bool.not_true, Bool.false_or] at h3
    split at h3
    · rename_i tn tp elx gens scope pos'
      have h4 : (!(isSeqT (.Name tn tp) && isSeqE (.ListComp elx gens scope pos')) || headNo (.Name tn tp) || seqB (.Name tn tp) (.ListComp elx gens scope pos') || cellB X.env.scope (.Name tn tp) (.ListComp elx gens scope pos')) = true := rfl
      by_cases hs : swB X.env.scope tn tp scope pos' = true
      · obtain ⟨hl, hsw⟩ := sw_yes (elt := elx) (gs := gens) (l := pos.line) hk hs
        cases t <;> first | (simp [mtG] at h1; done) | skip
        rename_i i
        simp only [mtG, Bool.and_eq_true, decide_eq_true_eq] at h1
        cases e <;> first | (simp [mt, lenOfSet, lenOfComp] at h2; done) | skip
        · rename_i elt t it cond own
          obtain ⟨elx, y, z, ifs, scope, pos', ex, k1, k2, k3, k4, k5, k6, k7, k8, k9⟩ := comp_parts h2
          cases ex
          have B := blk_of O (sd elt) (sd t) (sd cond) k7 k8 k9
          have p := ps_setLc (pos := pos') (spos := pos) (py := tp) O.calm (by rw [O.hN]; exact O.nd) (by rw [O.hN]; exact h1.1) hl hsw ((sd it fp sc X O).it y z k6) (blkOk_by (N := X.N) (sc := X.env.scope) (by rw [O.hN, O.sc]; exact k1)) B.pg B.pt B.pe (fun x => folded_of k5 x)
          refine ⟨fun pins s σ H D J q => p.run pins s σ H D J ?_⟩
          rw [own_map]
          have q := s_asg q
          have q2 := i_comp k2 (fun i hi => by rw [J.len, O.hN]; exact k3 i hi) k4 q
          unfold tAsg
          have mono : ∀ Q Q' : VK, (∀ v H', Q v H' → Q' v H') → tLc (rdI cs cl fl X.K it) (rdG cs cl fl X.K t) (rdT cs cl fl X.K cond) (rdE cs cl fl X.K elt) own σ H Q → tLc (rdI cs cl fl X.K it) (rdG cs cl fl X.K t) (rdT cs cl fl X.K cond) (rdE cs cl fl X.K elt) own σ H Q' := by
            intro Q Q' k h
            unfold tLc rdI at h ⊢
            obtain ⟨Z, ρ, st, tm, I, F⟩ := h
            refine ⟨Z, ρ, st, tm, I, F.mono fun xs s1 F Z1 ρ1 H1 J l p I1 ok D hD => ?_⟩
            obtain ⟨W0, w0, step⟩ := F Z1 ρ1 H1 J l p I1 ok D hD
            refine ⟨W0, w0, fun i m H w => ?_⟩
            rcases step i m H w with ⟨a, b⟩ | b
            · exact .inl ⟨a, k _ _ b⟩
            · exact .inr b
          exact mono _ _ (fun v H' q => g_var q) q2
        · rename_i elt t it cond t1 it1 cond1 own own1
          obtain ⟨elx, y, z, ifs, y1, z1, ifs1, scope, pos', ex, ⟨k1, k2, k3, k4, k5, k6, k7, k8, k9⟩, n1, n2, n3, n4, n5, n6, n7⟩ := comp2_parts h2
          cases ex
          have B := blk_of O (sd elt) (sd t) (sd cond) k7 k8 k9
          have B1 := blk_of O (sd elt) (sd t1) (sd cond1) n6 k8 n7
          have p := ps_setLc2 (pos := pos') (spos := pos) (py := tp) (vs1 := own1) (wi1 := rdI cs cl fl X.K it1) O.calm (by rw [O.hN]; exact O.nd) (by rw [O.hN]; exact h1.1) hl hsw ((sd it fp sc X O).it y z k6) (blkOk_by (N := X.N) (sc := X.env.scope) (by rw [O.hN, O.sc]; exact k1)) (fun i hi => by rw [own_map]; exact n2 i hi) B.pg B.pt
            (fun s H C clo f => (sd it1 _ _ _ (O.blk s H scope C clo f)).it y1 z1 n5) B1.pg B1.pt B.pe (fun x => folded_of k5 x) (fun env x => folded_of n4 x)
          refine ⟨fun pins s σ H D J q => p.run pins s σ H D J ?_⟩
          rw [own_map]
          have q := s_asg q
          have q2 := i_comp2 k2 (fun i hi => by rw [J.len, O.hN]; exact k3 i hi) k4 n1 n2 n3 q
          unfold tAsg
          have mono : ∀ Q Q' : VK, (∀ v H', Q v H' → Q' v H') → tLc2 (rdI cs cl fl X.K it) (rdG cs cl fl X.K t) (rdT cs cl fl X.K cond) (rdI cs cl fl X.K it1) (rdG cs cl fl X.K t1) (rdT cs cl fl X.K cond1) (rdE cs cl fl X.K elt) own own1 σ H Q → tLc2 (rdI cs cl fl X.K it) (rdG cs cl fl X.K t) (rdT cs cl fl X.K cond) (rdI cs cl fl X.K it1) (rdG cs cl fl X.K t1) (rdT cs cl fl X.K cond1) (rdE cs cl fl X.K elt) own own1 σ H Q' := by
            intro Q Q' k h
            unfold tLc2 at h ⊢
            generalize rdI cs cl fl X.K it1 = W1 at h ⊢
            unfold rdI at h ⊢
            obtain ⟨Z, ρ, st, tm, I, F⟩ := h
            refine ⟨Z, ρ, st, tm, I, F.mono fun xs s1 F Z1 ρ1 H1 J l p I1 ok D hD => ?_⟩
            obtain ⟨W0, w0, step⟩ := F Z1 ρ1 H1 J l p I1 ok D hD
            refine ⟨W0, w0, fun i m H w => ?_⟩
            rcases step i m H w with ⟨a, b⟩ | b
            · exact .inl ⟨a, k _ _ b⟩
            · exact .inr b
          exact mono _ _ (fun v H' q => g_var q) q2
      · have hs := sw_false (elt := elx) (gs := gens) (l := pos.line) (Bool.eq_false_iff.mpr hs)
        exact Lw.PS.imp (ps_asg pe pg hs (ss_any h4)) fun D σ H q => s_asg q
    · cases h3
  · have hc : isComp x = false := by simpa using hc
    rw [Bool.or_eq_true] at h4
    rcases h4 with h4 | h4
    rotate_left
    · exact ss_par O hk h1 pe h4
    rw [← O.sc] at h4
    exact Lw.PS.imp (ps_asg pe pg (sw_none hc) (ss_any h4) (by rw [assign_one (starG h1)]; rfl)) fun D σ H q => s_asg q
theorem ss_augF (O : XOk g cs cl fl N fp sc X) {o e : E} {f : Str} {op : Bop} : Ss g cs cl fl wf (.augF o f op e) N fp sc X := by
  refine Ss.of (fun st h => ?_) (fun sts => by cases sts <;> simp [ms])
  cases st <;> first | (simp [m1] at h; done) | skip
  rename_i x o2 y pos
  cases x <;> first | (simp [m1] at h; done) | skip
  simp only [m1, Bool.and_eq_true, decide_eq_true_eq] at h
  obtain ⟨⟨⟨⟨⟨h1, h2⟩, h3⟩, h4⟩, h5⟩, h6⟩ := h
  subst h1
  subst h3
  unfold augC at h5
  split at h5
  · rename_i k c _ _
    cases c <;> first | (simp [conB] at h5; done) | skip
    simp only [conB, beq_iff_eq] at h5
    subst h5
    cases op <;> first | (simp at h4; done) | skip
    · exact Lw.PS.imp (ps_fldaug ((sd o fp sc X O).ev _ h6).1 pe_int in_add) fun D σ H q => s_augF (fun a b => rfl) (fun i j H Q q => ⟨i, j, rfl, rfl, q⟩) (fun c C hc => O.flds c C _ hc h2) q
    · exact Lw.PS.imp (ps_fldaug ((sd o fp sc X O).ev _ h6).1 pe_int in_sub) fun D σ H q => s_augF (fun a b => rfl) (fun i j H Q q => ⟨i, j, rfl, rfl, q⟩) (fun c C hc => O.flds c C _ hc h2) q
  · cases h5
theorem ss_all (O : XOk g cs cl fl N fp sc X) (hk : X.env.scope.kind = .function) (hp : PassesOwn (model X.prog X.w) X.A X.env X.xe) : ∀ s : S, Ss g cs cl fl wf s N fp sc X
  | .nil => ss_nil
  | .sq a b => ss_sq (ss_all O hk hp a) (ss_all O hk hp b)
  | .expr e => Ss.of (fun st h => by
      cases st <;> first | (simp [m1] at h; done) | skip
      simp only [m1, Bool.and_eq_true, Bool.not_eq_true'] at h
      exact Lw.PS.imp (ps_expr ((sd e fp sc X O).ev _ h.2).1 (sw_none h.1)) fun D σ H q => s_expr q) (fun sts => by cases sts <;> simp [ms])
  | .asg t e => ss_asg O hk
  | .aug i op e => Ss.of (fun st h => by
      cases st <;> first | (simp [m1] at h; done) | skip
      rename_i x o y pos
      cases x <;> first | (simp [m1] at h; done) | skip
      simp only [m1, Bool.and_eq_true, decide_eq_true_eq] at h
      obtain ⟨⟨⟨⟨h1, h2⟩, h3⟩, h4⟩, h5⟩ := h
      subst h3
      obtain ⟨l1, l2⟩ := loc_of O h2
      have nd : X.N.Nodup := by rw [O.hN]; exact O.nd
      rename_i nm _
      have hi : X.N[i]? = some nm := by rw [O.hN]; exact h1
      cases op <;> first | (simp at h4; done) | skip
      · exact Lw.PS.imp (ps_aug nd hi l1 ((sd e fp sc X O).ev _ h5).1 ip_add l2) fun D σ H q => s_aug (fun a b => rfl) q
      · exact Lw.PS.imp (ps_aug nd hi l1 ((sd e fp sc X O).ev _ h5).1 ip_sub l2) fun D σ H q => s_aug (fun a b => rfl) q) (fun sts => by cases sts <;> simp [ms])
  | .augF o f op e => ss_augF O
  | .ret e => Ss.of (fun st h => by
      cases st <;> first | (simp [m1] at h; done) | skip
      rename_i v pos
      cases v <;> first | (simp [m1] at h; done) | skip
      simp only [m1] at h
      exact Lw.PS.imp (ps_ret ((sd e fp sc X O).ev _ h).1) fun D σ H q => s_ret q) (fun sts => by cases sts <;> simp [ms])
  | .retN => Ss.of (fun st h => by
      cases st <;> first | (simp [m1] at h; done) | skip
      rename_i v pos
      cases v <;> first | (simp [m1] at h; done) | skip
      exact Lw.PS.imp ps_retN fun D σ H q => s_retN q) (fun sts => by cases sts <;> simp [ms])
  | .ite c a b => Ss.of (fun st h => by
      cases st <;> first | (simp [m1] at h; done) | skip
      simp only [m1, Bool.and_eq_true] at h
      exact Lw.PS.imp (ps_if ((sd c fp sc X O).ev _ h.1.1).2 ((ss_all O hk hp a).all _ h.1.2) ((ss_all O hk hp b).all _ h.2)) fun D σ H q => s_ite q) (fun sts => by cases sts <;> simp [ms])
  | .for t it b => Ss.of (fun st h => by
      cases st <;> first | (simp [m1] at h; done) | skip
      rename_i y x ys oe pos
      cases oe <;> first | (simp [m1] at h; done) | skip
      simp only [m1, Bool.and_eq_true, Bool.not_eq_true'] at h
      obtain ⟨⟨⟨h1, h2⟩, h3⟩, h4⟩ := h
      exact Lw.PS.imp (ps_for hp O.calm ((sd it fp sc X O).it _ _ h2) ((sd t fp sc X O).tg _ h1) ((ss_all O hk hp b).all _ h4) (fun v => folded_of h3 v)) fun D σ H q => s_for q) (fun sts => by cases sts <;> simp [ms])
  | .while c b => Ss.of (fun st h => by
      cases st <;> first | (simp [m1] at h; done) | skip
      rename_i x ys oe pos
      cases oe <;> first | (simp [m1] at h; done) | skip
      simp only [m1, Bool.and_eq_true] at h
      exact Lw.PS.imp (ps_while hp ((sd c fp sc X O).ev _ h.1).2 ((ss_all O hk hp b).all _ h.2)) fun D σ H q => s_while q) (fun sts => by cases sts <;> simp [ms])
  | .asgH i e => Ss.of (fun st h => by
      cases st <;> first | (simp [m1] at h; done) | skip
      rename_i ys x pos
      rcases ys with _ | ⟨y, _ | ⟨y2, ys⟩⟩ <;> first | (simp [m1] at h; done) | skip
      simp only [m1, Bool.and_eq_true, Bool.not_eq_true'] at h
      obtain ⟨⟨⟨h1, h2⟩, h3⟩, h4⟩ := h
      exact Lw.PS.imp (ps_asg ((sd e fp sc X O).ev x h2).1 ((sd (.var i) fp sc X O).tg y h1) (sw_none h3) (ss_none (by rw [h4, Bool.and_false])) (by rw [assign_one (starG h1)]; rfl)) fun D σ H q => s_asgH q) (fun sts => by cases sts <;> simp [ms])
  | .forH t it b => Ss.of (fun st h => by
      cases st <;> first | (simp [m1] at h; done) | skip
      rename_i y x ys oe pos
      cases oe <;> first | (simp [m1] at h; done) | skip
      simp only [m1, Bool.and_eq_true, Bool.not_eq_true'] at h
      obtain ⟨⟨⟨h1, h2⟩, h3⟩, h4⟩ := h
      exact Lw.PS.imp (ps_for hp O.calm (pi_list ((sd it fp sc X O).ev _ h2).1) ((sd t fp sc X O).tg _ h1) ((ss_all O hk hp b).all _ h4) (fun v => folded_of h3 v)) fun D σ H q => s_forH q) (fun sts => by cases sts <;> simp [ms])
  | .stop => Ss.of (fun st h => by
      cases st <;> first | (simp [m1] at h; done) | skip
      exact ⟨fun pins s σ H D I q => by
        obtain ⟨Z, ρ, st, tm, _, F⟩ := q
        unfold ex at F
        exact F.elim⟩) (fun sts => by cases sts <;> simp [ms])
  | .pass => Ss.of (fun st h => by
      cases st <;> first | (simp [m1] at h; done) | skip
      exact Lw.PS.imp ps_pass fun D σ H q => s_pass q) (fun sts => by cases sts <;> simp [ms])
  | .brk => Ss.of (fun st h => by
      cases st <;> first | (simp [m1] at h; done) | skip
      exact Lw.PS.imp ps_break fun D σ H q => s_brk q) (fun sts => by cases sts <;> simp [ms])
  | .cont => Ss.of (fun st h => by
      cases st <;> first | (simp [m1] at h; done) | skip
      exact Lw.PS.imp ps_continue fun D σ H q => s_cont q) (fun sts => by cases sts <;> simp [ms])
end
end Lw

set_option Elab.async false
set_option linter.all false
set_option maxRecDepth 100000
set_option maxHeartbeats 8000000
/-! Lw, part 13: the defs of a text together, the law -/
namespace Lw
open PySem L2 PySem.Spec PyProof.Rows
theorem fl_eq (tb : Tab) (r : Nat → List O → List O → CRes) : (tb.cl r).fn = r := rfl
def Tab.mtOf (tb : Tab) (c : Nat) (m : Str) : Option Nat := (tb.mts.find? fun p => p.1 == c && p.2.1 == m).map (·.2.2)
def Tab.iniOf (tb : Tab) (c : Nat) : Option Nat := (tb.inis.find? fun p => p.1 == c).map (·.2)
/-- a def of the text, its compact form beside it -/
structure EntM (K : Fg) (tb : Tab) (g : Gm) (f : Nat) (fa : Addr) (fd : FuncData) (ps : List Str) : Prop where
  keep : PySem.W.keepIn K (.ref fa) = true
  body : ∃ x N qual st d, tb.defs[f]? = some d ∧ Fun K x qual st fa fd ∧ FnScope N ps (defScope st) ∧ d.np = ps.length ∧ d.ns = N.length ∧ (N.all goodN) = true ∧ ms g N (fun _ => true) (defScope st) d.body (defBody st) = true
structure Ent (K : Fg) (mg : Str → Option Value) (tb : Tab) (g : Gm) (f : Nat) (x : Str) (fa : Addr) (fd : FuncData) (ps : List Str) : Prop where
  mg : mg x = some (.ref fa)
  ent : EntM K tb g f fa fd ps
structure Book (K : Fg) (mg : Str → Option Value) (cs : Nat → Option Addr) (tb : Tab) (g : Gm) : Prop where
  fns : ∀ f x, g.fns[f]? = some (some x) → ∃ fa fd ps, Ent K mg tb g f x fa fd ps ∧ Binds K fd ps []
  dfs : ∀ f x ks, (f, x, ks) ∈ g.dfs → ∃ fa fd ps, Ent K mg tb g f x fa fd ps ∧ ∃ ds, Vals (ks.map kV) ds ∧ Binds K fd ps ds
  bn : ∀ n, n ∈ allNames → mg (Str.ofString n) = none
  gcs : ∀ x k, (x, k) ∈ g.gcs → ∃ u, mg x = some u ∧ RelV (kV k) u
  mts : ∀ c m f, tb.mtOf c m = some f → ∃ C fa fd ps, cs c = some C ∧ Cls K C ∧ Meth K C m fa ∧ EntM K tb g f fa fd ps ∧ Binds K fd ps []
  news : ∀ c f x, tb.iniOf c = some f → g.cls[c]? = some (some x) → ∃ C fa fd ps, cs c = some C ∧ mg x = some (.ref C) ∧ Mk K C fa ∧ EntM K tb g f fa fd ps ∧ Binds K fd ps []
  flds : ∀ c C f, cs c = some C → g.fds.contains f = true → Cls K C ∧ NoAttr K C f
theorem run_len {tb : Tab} {wf : Nat} : ∀ {n f : Nat} {os h : List O} {o : O} {h' : List O}, run tb wf n f os h = .ok o h' → ∃ d, tb.defs[f]? = some d ∧ os.length = d.np
  | 0, f, os, h, o, h', e => by unfold run at e; cases e
  | n + 1, f, os, h, o, h', e => by
    unfold run at e
    split at e
    · cases e
    · rename_i d hd
      split at e
      · rename_i hl; exact ⟨d, hd, hl⟩
      · cases e
section
variable {P : Program} {w : World} {K : Fg} {mg : Str → Option Value} {base : Heap} {cs : Nat → Option Addr} {tb : Tab} {g : Gm} {wf : Nat}
theorem zip_holes (os : List O) (vs : List V) (hl : os.length = vs.length) (m : Nat) : (os ++ List.replicate m O.hole).zip (vs.map some ++ List.replicate m (none : Option V)) = os.zip (vs.map some) ++ List.replicate m (O.hole, none) := by
  rw [List.zip_append (by rw [List.length_map, hl])]
  congr 1
  rw [List.zip_replicate, Nat.min_self]
theorem Rel.holes {A : List Addr} {Z : Hp} {ρ : List Addr} {H : Hp} {h : List O} {ts : List Th} (R : Rel K cs A Z ρ H h ts) : ∀ m : Nat, Rel K cs A Z ρ H h (List.replicate m (O.hole, none) ++ ts)
  | 0 => R
  | m + 1 => (Rel.holes R m).hole none
/-- every def of the text does what the compact form says -/
theorem fn_ok (B : Book K mg cs tb g) : ∀ (n f : Nat) fa fd ps, EntM K tb g f fa fd ps → FnV P w K mg base cs (run tb wf n f) (2 * n) fa fd ps
  | 0, f, fa, fd, ps, E => ⟨fun A outer s H args us vs Q hr hg e0 hb r hl h => by
      obtain ⟨Z, ρ, h0, os, ts, _, _, F⟩ := h
      unfold run at F
      exact F.elim⟩
  | n + 1, f, fa, fd, ps, E => by
    obtain ⟨x, N, qual, st, d, hd, F, S, hnp, hns, hgd, hms⟩ := E.body
    have lens : ∀ f' fa' fd' ps', EntM K tb g f' fa' fd' ps' → ∀ os h o h', run tb wf n f' os h = .ok o h' → os.length = ps'.length := fun f' fa' fd' ps' E' os h o h' e => by
      obtain ⟨d', e1, e2⟩ := run_len e
      obtain ⟨_, _, _, _, d2, k1, _, _, k2, _⟩ := E'.body
      rw [e1] at k1
      cases k1
      rw [e2, k2]
    have hpn : ps.length ≤ N.length := by have := congrArg List.length S.pre; rw [List.length_take] at this; omega
    rw [show 2 * (n + 1) = (2 * n + 1) + 1 from by omega]
    refine FnV.ofBody F S fun cdv A outer s H vs Q hr hg hl hsp => ?_
    generalize hX : cxOf CX0 P w K mg base N qual (defScope st) fa cdv A outer s H E0 = X
    have hXN : X.N = N := by rw [← hX]; rfl
    have hXK : X.K = K := by rw [← hX]; rfl
    have hXm : X.mg = mg := by rw [← hX]; rfl
    have hXs : X.env.scope = defScope st := by rw [← hX]; rfl
    have hXA : X.A = A.deeper (envOfC qual (defScope st) s.heap.objs.size fa cdv) := by rw [← hX]; rfl
    have hXP : X.prog = P := by rw [← hX]; rfl
    have hXw : X.w = w := by rw [← hX]; rfl
    have hXb : X.base = base := by rw [← hX]; rfl
    have O : XOk g cs (tb.cl (run tb wf n)) tb.fl N (fun _ => true) (defScope st) X := {
      hN := hXN
      nd := S.nd
      good := fun i y hy => List.all_eq_true.mp hgd y (List.mem_of_getElem? hy)
      sc := hXs
      calm := by rw [← hX]; rfl
      gd := by rw [hXA]; exact hg
      un := by rw [hXA]; have := hr.un; omega
      bn := by rw [hXm]; exact B.bn
      gcs := by rw [hXm]; exact B.gcs
      fp := fun y _ => by rw [← hX]; rfl
      fns := fun f' x' hx' => by
        obtain ⟨fa', fd', ps', E', b'⟩ := B.fns f' x' hx'
        refine ⟨fa', fd', ps', 2 * n, by rw [hXm]; exact E'.mg, by rw [hXK]; exact E'.ent.keep, ?_, by rw [hXA]; exact hr.mono (by omega), by rw [hXK]; exact b', lens _ _ _ _ E'.ent⟩
        rw [hXP, hXw, hXK, hXm, hXb]
        exact fn_ok B n f' fa' fd' ps' E'.ent
      dfs := fun f' x' ks' hx' => by
        obtain ⟨fa', fd', ps', E', b'⟩ := B.dfs f' x' ks' hx'
        refine ⟨fa', fd', ps', 2 * n, by rw [hXm]; exact E'.mg, by rw [hXK]; exact E'.ent.keep, ?_, by rw [hXA]; exact hr.mono (by omega), by rw [hXK]; exact b', lens _ _ _ _ E'.ent⟩
        rw [hXP, hXw, hXK, hXm, hXb]
        exact fn_ok B n f' fa' fd' ps' E'.ent
      mts := fun c m f' hf' => by
        obtain ⟨C, fa', fd', ps', h1, h2, h3, E', b'⟩ := B.mts c m f' hf'
        refine ⟨C, fa', fd', ps', 2 * n, h1, by rw [hXK]; exact h2, by rw [hXK]; exact h3, ?_, by rw [hXA]; exact hr.mono (by omega), by rw [hXK]; exact b', lens _ _ _ _ E'⟩
        rw [hXP, hXw, hXK, hXm, hXb]
        exact fn_ok B n f' fa' fd' ps' E'
      news := fun c f' x' hf' hx' => by
        obtain ⟨C, fa', fd', ps', h1, h2, h3, E', b'⟩ := B.news c f' x' hf' hx'
        refine ⟨C, fa', fd', ps', 2 * n, h1, by rw [hXm]; exact h2, by rw [hXK]; exact h3, ?_, by rw [hXA]; exact hr, by rw [hXK]; exact b', lens _ _ _ _ E'⟩
        rw [hXP, hXw, hXK, hXm, hXb]
        exact fn_ok B n f' fa' fd' ps' E'
      flds := fun c C f' h1 h2 => by rw [hXK]; exact B.flds c C f' h1 h2 }
    refine ⟨_, (ss_all (wf := wf) O (by rw [hXs]; exact S.kind) (by rw [← hX]; exact PassesOwn.leaving) d.body).all _ hms, ?_⟩
    obtain ⟨Z, ρ, h0, os, ts, hol, R, F⟩ := hsp
    unfold run at F
    rw [hd] at F
    dsimp only at F
    by_cases hlen : os.length = d.np
    · rw [if_pos hlen] at F
      refine ⟨Z, ρ, ⟨os ++ List.replicate (d.ns - d.np) .hole, h0⟩, ts, ⟨?_, ?_⟩, ?_⟩
      · show (os ++ List.replicate (d.ns - d.np) Lw.O.hole).length = (L2.start N vs).length
        unfold L2.start
        rw [List.length_append, List.length_append, List.length_replicate, List.length_replicate, List.length_map, hol, hnp, hns, hl]
      · show Rel X.K cs [] Z ρ H h0 ((os ++ List.replicate (d.ns - d.np) Lw.O.hole).zip (L2.start N vs) ++ ts)
        unfold L2.start
        rw [hns, hnp, hl, zip_holes os vs hol, hXK, List.append_assoc]
        exact (Rel.holes R _).perm (List.perm_append_comm_assoc _ _ _)
      · rw [hXK]
        cases hex : ex (tb.cl (run tb wf n)) tb.fl wf d.body ⟨os ++ List.replicate (d.ns - d.np) .hole, h0⟩ with
        | bad => rw [hex] at F; exact F.elim
        | exc c v s => rw [hex] at F; exact F.elim
        | ok fl s2 =>
          rw [hex] at F
          intro Z' ρ' σ' H' l p
          cases fl with
          | next => exact fun I => F Z' ρ' .non H' l p (I.rel.dropN.dat rd_non)
          | brk => exact F.elim
          | cont => exact F.elim
          | ret o => exact fun v I => F Z' ρ' v H' l p I.rel.dropN
    · rw [if_neg hlen] at F
      exact F.elim
theorem Rel.empty (H : Hp) : Rel K cs [] H [] H [] [] := ⟨Le.refl _, rfl, [], .nil, List.nodup_nil, fun a ha => absurd ha (by simp)⟩
/-- what the law is asked: the script stands where it stands -/
theorem asked {n f : Nat} {H : Hp} {a : Addr} {ns : List Int} (hS : SqL K H a (ns.map V.int)) (hr : ∃ h, run tb wf n f [.d (.scr ns)] [] = .ok (.d (.bl true)) h) : spF K cs (run tb wf n f) [.ref a] H fun v _ => v = .bl true := by
  obtain ⟨h, e⟩ := hr
  refine ⟨H, [], [], [.d (.scr ns)], [], rfl, (Rel.empty H).dat (by unfold RD; exact ⟨a, rfl, hS⟩), ?_⟩
  rw [e]
  exact fun Z' ρ' v H' l p R => R.isD.elim fun u q => by
    obtain ⟨e, r⟩ := q
    cases e
    exact r.bl
end
/-- the law's own call, at the heap behind the top: the script hidden (where it is no object of the module), all else the base -/
theorem law_go {P : Program} {w : World} {K : Fg} {mg mb : Str → Option Value} {cs : Nat → Option Addr} {G : List O → List O → CRes} {k : Nat} {fa a : Addr} {fd : FuncData} {x : Str} {s₁ : Shared} {vs : List Value} {ns : List Int}
    (KX : K.In s₁.heap) (gl : s₁.heap.Ns mainGlobals mg) (bl : s₁.heap.Ns builtinsNs mb) (boot : ∀ x : Str, x ≠ "__name__" → mb x = bootBuiltins x) (lim : s₁.heap.NoLimit) (calm : s₁.gens = #[])
    (scr : s₁.heap.get? a = some { cls := .type "list", data := .seq vs.toArray }) (hin : IntsAre vs ns) (few : ns.length ≤ sizeLine) (room : Room k callerA)
    (F : ∀ base : Heap, K.In base → base.Ns mainGlobals mg → FnV P w K mg base cs G k fa fd [x]) (bind : ∀ (s : Shared) (u : Value), BindsTo s fd ⟨[u], []⟩ [(x, u)])
    (asks : ∀ H : Hp, SqL K H a (ns.map V.int) → spF K cs G [.ref a] H fun v _ => v = .bl true) :
    codeAny (model P w) callerA (.call (.ref fa) ⟨[.ref a], []⟩) (fun r s' => r = .ok (.ret (.bool true)) ∧ OldK s₁.heap s'.heap ∧ s'.os = s₁.os ∧ AllBare s'.gens) s₁ := by
  have rel := vals_ints hin
  have same := hin.length
  -- the abstract heap: at most the script
  suffices main : ∃ H : Hp, SqL K H a (ns.map V.int) ∧ HOk P w H s₁.heap ∧ (∀ b, H b = none ∨ (b = a ∧ K.lookup a = none ∧ ∃ o xs, H b = some (.frz o (.lst xs)))) by
    obtain ⟨H, onIt, fits, only⟩ := main
    have seen : ∀ {b : Addr} {o : Obj}, s₁.heap.get? b = some o → H b = none → (hidT s₁.heap H).get? b = some o := fun q z => hidT_get q z
    have spaces : ∀ {b : Addr} {m : Str → Option Value}, s₁.heap.Ns b m → (hidT s₁.heap H).Ns b m := fun {b m} q => by
      obtain ⟨o, es, ep, q1, q2, q3⟩ := q
      refine ⟨o, es, ep, seen q1 ?_, q2, q3⟩
      rcases only b with z | ⟨z, _, _⟩
      · exact z
      · subst z
        rw [scr] at q1
        cases q1
        have q4 : Data.seq vs.toArray _ = Data.dict es ep := q2
        cases q4
    have inB : K.In (hidT s₁.heap H) := fun b o q => seen (KX b o q) (by
      rcases only b with z | ⟨z, k, _⟩
      · exact z
      · subst z
        rw [k] at q
        cases q)
    obtain ⟨ml, l1, l2⟩ := lim
    have ground : Env0 P w K mg (hidT s₁.heap H) callerA [] s₁ H := {
      frames := rfl
      mod := ⟨inB, spaces gl, ⟨mb, spaces bl, boot⟩, ⟨ml, spaces l1, l2⟩⟩
      bs := fun b o q => of_hidT q
      bsz := Nat.le_of_eq (hidT_size _ _)
      funs := trivial
      frf := fun b q => nomatch q
      hok := fits
      bare := .of_eq calm }
    have called := (F _ inB (spaces gl)).go callerA [] s₁ H ⟨[.ref a], []⟩ [.ref a] [.ref a] (fun v _ => v = .bl true) room rfl ground (bind s₁ (.ref a)) (.cons rfl .nil) rfl (asks H onIt)
    refine codeAny_mono called fun r s' out => ?_
    match r, out with
    | .ok (.ret u), out =>
      obtain ⟨v, H', o1, o2, kept, fits', rv, yes⟩ := out
      have yes : v = .bl true := yes
      subst yes
      cases (show u = Value.bool true from rv)
      refine ⟨rfl, OldK.of_keep fun b o q => ?_, o1, o2⟩
      rcases only b with z | ⟨_, _, ob, xs, z⟩
      · exact kept.keep b o q z (fun q => nomatch q) (fun q => nomatch q)
      · have z2 := kept.frzs b ob _ z
        obtain ⟨g1, _⟩ := fits b _ z
        obtain ⟨g2, _⟩ := fits' b _ z2
        rw [q] at g1
        cases g1
        exact g2
    | .error e, out => exact False.elim out
  cases own : K.lookup a with
  | some o =>
    have q := KX a o own
    rw [scr] at q
    cases q
    exact ⟨fun _ => none, .inr ⟨_, vs.toArray, _, own, rfl, rfl, rfl, by rw [List.size_toArray, same]; exact few, by simpa using rel⟩, fun b u z => (nomatch z), fun b => .inl rfl⟩
  | none =>
    have at_a : ∀ {u : HO}, (fun b => if b = a then some (HO.frz { cls := .type "list", data := .seq vs.toArray } (.lst (ns.map V.int))) else none : Hp) a = some u → HO.frz { cls := .type "list", data := .seq vs.toArray } (.lst (ns.map V.int)) = u := fun z => Option.some.inj ((if_pos rfl).symm.trans z)
    refine ⟨fun b => if b = a then some (.frz { cls := .type "list", data := .seq vs.toArray } (.lst (ns.map V.int))) else none, .inl (.inr ⟨_, if_pos rfl⟩), fun b u z => ?_, fun b => ?_⟩
    · by_cases q : b = a
      · subst q
        cases at_a z
        exact ⟨scr, by rw [List.length_map]; exact few, vs, _, rel, scr⟩
      · cases (if_neg q).symm.trans z
    · by_cases q : b = a
      · exact .inr ⟨q, rfl, _, _, if_pos q⟩
      · exact .inl (if_neg q)
/-- THE END: the law holds where the compact form says true for every script -/
theorem law_of {l : PySem.W.OpenLaw} {n k : Nat} {q : Program} {loose : List Str} {XP : (Str → Option Value) → Heap → Prop} {YP : World → Heap → Prop} {d : DefRec} {Kf : Params → PySem.W.Frag} {tb : Tab} {g : Gm} {wf : Nat} {f : Nat} {x : Str}
    (hn : l.most = some n) (hn2 : n ≤ sizeLine) (hdf : d.params.defaults = []) (room : Room (2 * k) callerA) (hY : ∀ (w : World) (h : Heap), YP w h → (Kf w.params).In h) (hf : g.fns[f]? = some (some d.name))
    (F : ∀ (w : World) (mg : Str → Option Value) (fa : Addr) (h : Heap), (Kf w.params).In h → h.Ns mainGlobals mg → mg d.name = some (.ref fa) → ∃ cs, Book (Kf w.params) mg cs tb g ∧ ∃ fd, Ent (Kf w.params) mg tb g f d.name fa fd [x] ∧ ∀ (s : Shared) (u : Value), BindsTo s fd ⟨[u], []⟩ [(x, u)])
    (yes : ∀ ns : List Int, ns.length ≤ n → ∃ h, run tb wf k f [.d (.scr ns)] [] = .ok (.d (.bl true)) h) :
    PySem.W.WalkO q loose XP YP l.row.toRowW d [] (fun f vs => PySem.call f vs) := by
  refine Att.attach_call hn hdf fun w s₀ s₁ mg mb fa o pm cd doc a vs ns G Y ho hd hcd hmg hobj hints hlen hg => ?_
  have KX := hY w _ Y
  obtain ⟨cs, B, fd, E, hb⟩ := F w mg fa _ KX G.T.g hmg
  exact law_go (cs := cs) KX G.T.g G.T.b G.T.builtins G.T.nolimit hg hobj hints (Nat.le_trans hlen hn2) room (fun base _ _ => fn_ok B k f fa fd [x] E.ent) hb fun H hS => asked hS (yes ns hlen)
end Lw
namespace Lw
open PySem
theorem mtOf_mem {tb : Tab} {c : Nat} {m : Str} {f : Nat} (h : tb.mtOf c m = some f) : (c, m, f) ∈ tb.mts := by
  unfold Tab.mtOf at h
  cases hf : tb.mts.find? fun p => p.1 == c && p.2.1 == m with
  | none => rw [hf] at h; cases h
  | some t =>
    rw [hf] at h
    have h1 := List.find?_some hf
    have h2 := List.mem_of_find?_eq_some hf
    obtain ⟨a, b, d⟩ := t
    simp only [Bool.and_eq_true, beq_iff_eq] at h1
    cases h
    obtain ⟨rfl, rfl⟩ := h1
    exact h2
theorem iniOf_mem {tb : Tab} {c : Nat} {f : Nat} (h : tb.iniOf c = some f) : (c, f) ∈ tb.inis := by
  unfold Tab.iniOf at h
  cases hf : tb.inis.find? fun p => p.1 == c with
  | none => rw [hf] at h; cases h
  | some t =>
    rw [hf] at h
    have h1 := List.find?_some hf
    have h2 := List.mem_of_find?_eq_some hf
    obtain ⟨a, d⟩ := t
    simp only [beq_iff_eq] at h1
    cases h
    subst h1
    exact h2
/-- a def with keyword-only parameters that have constant defaults, called without them -/
theorem binds_kw {K : Fg} {x q : Str} {params : Arguments} {body : List Stmt} {scope : Scope} {f D : Addr} {oc : Value} {od an : Option Addr} {osl : Array (Option Value)} {doc pm cdv ct : Value} {kws : List (Str × L2.Key)} {ps : List Str}
    (l : K.lookup f = some ⟨oc, od, .func (PySem.W.fnOf x q params body scope .none (.ref D) doc pm an cdv ct), osl⟩) (c : PySem.W.codeIn K cdv q = true) (kp : PySem.W.keepIn K (.ref f) = true)
    (facts : ∀ y ∈ kws, ∃ u, PySem.W.nsIn K D y.1 = some (some u) ∧ L2.RelV (L2.kV y.2) u) (n : Nat) (hk : kws ≠ []) (hn : n + kws.length = ps.length)
    (h : ∀ (doc pm : Value) (an : Option Addr) (cdv ct : Value) (us ks : List Value), us.length = n → ks.length = kws.length → L2.KwChain D ((kws.map (·.1)).zip ks) (bindArgs (PySem.W.fnOf x q params body scope .none (.ref D) doc pm an cdv ct) ⟨us, []⟩) (ps.zip (us ++ ks))) :
    ∃ ds, L2.Vals ((kws.map (·.2)).map L2.kV) ds ∧ L2.Binds K (PySem.W.fnOf x q params body scope .none (.ref D) doc pm an cdv ct) ps ds := by
  obtain ⟨ks, hl, rk, hks⟩ := L2.kwd_vals (K := K) (D := D) (ms := kws.map fun y => (y.1, L2.kV y.2)) (fun y hy => by
    obtain ⟨z, hz, rfl⟩ := List.mem_map.mp hy
    exact facts z hz)
  have e1 : (kws.map fun y => (y.1, L2.kV y.2)).map (·.2) = (kws.map (·.2)).map L2.kV := by simp
  have e2 : (kws.map fun y => (y.1, L2.kV y.2)).map (·.1) = kws.map (·.1) := by simp
  rw [e1] at rk
  rw [e2] at hks
  rw [List.length_map] at hl
  refine ⟨ks, rk, fun s us X hlen => ?_⟩
  refine L2.BindsTo.of_looks fun M => L2.KwChain.looks X hks (h doc pm an cdv ct us ks ?_ hl)
  rw [List.length_append, hl] at hlen
  omega
end Lw

set_option Elab.async false
set_option linter.all false
set_option maxRecDepth 100000
set_option maxHeartbeats 4000000
/-! Lw, part 14: the compact form, run by wishes -/
namespace Lw
open PySem
def Wc (r : CRes) (G : O → List O → Prop) : Prop := match r with | .ok o h => G o h | _ => False
/-- the end of a def's body -/
def Fin (G : O → List O → Prop) (w : Flow) (s : St) : Prop := match w with | .ret o => G o s.h | .next => G (.d .non) s.h | _ => False
theorem fin_ret {G : O → List O → Prop} {o : O} {e h : List O} : Fin G (.ret o) ⟨e, h⟩ = G o h := rfl
theorem fin_next {G : O → List O → Prop} {e h : List O} : Fin G .next ⟨e, h⟩ = G (.d .non) h := rfl
theorem Wc.mono {r : CRes} {G G' : O → List O → Prop} (h : Wc r G) (k : ∀ o h, G o h → G' o h) : Wc r G' := by
  cases r with
  | ok o hh => exact k o hh h
  | exc c v hh => exact h
  | bad => exact h
theorem Wc_ex {r : CRes} {x : O} (h : Wc r fun o _ => o = x) : ∃ hh, r = .ok x hh := by
  cases r with
  | ok o hh => exact ⟨hh, by rw [show o = x from h]⟩
  | exc c v hh => exact h.elim
  | bad => exact h.elim
section
variable {α β : Type} {cl : Cl} {fl : Nat → List Bool} {s : St} {e h : List O} {wf : Nat}
theorem w_bind {m : M α} {f : α → M β} {G : β → St → Prop} : W (m.bind f s) G = W (m s) fun a s' => W (f a s') G := propext W_bind
theorem w_ok {a : α} {G : α → St → Prop} : W (.ok a s) G = G a s := rfl
theorem w_bad {G : α → St → Prop} : W (.bad : Res α) G = False := rfl
theorem w_ret {a : α} {G : α → St → Prop} : W (ret a s) G = G a s := rfl
theorem w_die {G : α → St → Prop} : W ((die : M α) s) G = False := rfl
theorem w_some {a : α} {G : α → St → Prop} : W (opt (some a) s) G = G a s := rfl
theorem w_none {G : α → St → Prop} : W (opt (none : Option α) s) G = False := rfl
theorem w_ite {c : Prop} [Decidable c] {a b : Res α} {G : α → St → Prop} : W (if c then a else b) G = if c then W a G else W b G := by split <;> rfl
theorem w_iteM {c : Prop} [Decidable c] {a b : M α} {G : α → St → Prop} : W ((if c then a else b) s) G = if c then W (a s) G else W (b s) G := by split <;> rfl
/-- a call -/
theorem w_call {f : Nat} {es : E} {G : Hd → St → Prop} : W (hd cl fl (.call f es) s) G = W (avs cl fl (fl f) es s) fun os s => Wc (cl.fn f os s.h) fun o h' => G (.tmp o) ⟨s.e, h'⟩ := by
  unfold hd
  rw [w_bind]
  congr 1
  funext os s
  cases cl.fn f os s.h <;> rfl
theorem wc_run {tb : Tab} {n f : Nat} {os h : List O} {G : O → List O → Prop} {d : Df} (hd : tb.defs[f]? = some d) (hl : os.length = d.np)
    (k : W (ex (tb.cl (run tb wf n)) tb.fl wf d.body ⟨os ++ List.replicate (d.ns - d.np) .hole, h⟩) (Fin G)) : Wc (run tb wf (n + 1) f os h) G := by
  unfold run
  rw [hd]
  dsimp only
  rw [if_pos hl]
  cases hr : ex (tb.cl (run tb wf n)) tb.fl wf d.body ⟨os ++ List.replicate (d.ns - d.np) .hole, h⟩ with
  | bad => rw [hr] at k; exact k
  | exc c v s => rw [hr] at k; exact k
  | ok w s =>
    rw [hr] at k
    cases w <;> exact k
theorem w_forL {f : D → M Flow} {G : Flow → St → Prop} (I : Nat → St → Prop) : ∀ {xs : List D} {s : St} (i : Nat) (ys : List D), ys = xs.drop i → i ≤ xs.length → I i s → (∀ i s (hi : i < xs.length), I i s → W (f xs[i] s) fun w s' => match w with | .next => I (i + 1) s' | .cont => I (i + 1) s' | .brk => G .next s' | .ret o => G (.ret o) s') → (∀ s, I xs.length s → G .next s) → W (forL f ys s) G
  | xs, s, i, [], e, hi, h0, st, fin => by
    have : xs.length ≤ i := by
      have := congrArg List.length e
      rw [List.length_drop, List.length_nil] at this
      omega
    have : i = xs.length := by omega
    subst this
    exact fin s h0
  | xs, s, i, y :: ys, e, hi, h0, st, fin => by
    have hlt : i < xs.length := by
      have := congrArg List.length e
      rw [List.length_drop, List.length_cons] at this
      omega
    rw [List.drop_eq_getElem_cons hlt] at e
    cases e
    unfold forL
    rw [w_bind]
    refine (st i s hlt h0).mono fun w s' k => ?_
    cases w with
    | next => exact w_forL I (i + 1) _ rfl hlt k st fin
    | cont => exact w_forL I (i + 1) _ rfl hlt k st fin
    | brk => exact k
    | ret o => exact k
theorem w_for {f : D → M Flow} {xs : List D} {G : Flow → St → Prop} (I : Nat → St → Prop) (h0 : I 0 s) (st : ∀ i s (hi : i < xs.length), I i s → W (f xs[i] s) fun w s' => match w with | .next => I (i + 1) s' | .cont => I (i + 1) s' | .brk => G .next s' | .ret o => G (.ret o) s') (fin : ∀ s, I xs.length s → G .next s) : W (forL f xs s) G :=
  w_forL I 0 xs rfl (Nat.zero_le _) h0 st fin
theorem w_compL {f : D → M (Option D)} {G : List D → St → Prop} (I : Nat → List D → St → Prop) : ∀ {xs : List D} {s : St} (i : Nat) (ys acc : List D), ys = xs.drop i → i ≤ xs.length → I i acc s → (∀ i acc s (hi : i < xs.length), I i acc s → W (f xs[i] s) fun o s' => match o with | some y => acc.length < sizeLine ∧ I (i + 1) (acc ++ [y]) s' | none => I (i + 1) acc s') → (∀ acc s, I xs.length acc s → G acc s) → W (compL f ys acc s) G
  | xs, s, i, [], acc, e, hi, h0, st, fin => by
    have : xs.length ≤ i := by
      have := congrArg List.length e
      rw [List.length_drop, List.length_nil] at this
      omega
    have : i = xs.length := by omega
    subst this
    exact fin acc s h0
  | xs, s, i, y :: ys, acc, e, hi, h0, st, fin => by
    have hlt : i < xs.length := by
      have := congrArg List.length e
      rw [List.length_drop, List.length_cons] at this
      omega
    rw [List.drop_eq_getElem_cons hlt] at e
    cases e
    unfold compL
    rw [w_bind]
    refine (st i acc s hlt h0).mono fun o s' k => ?_
    cases o with
    | none => exact w_compL I (i + 1) _ acc rfl hlt k st fin
    | some v =>
      dsimp only
      rw [if_pos (decide_eq_true k.1)]
      exact w_compL I (i + 1) _ _ rfl hlt k.2 st fin
/-- a comprehension: what comes of it, by an invariant over what was told and the state -/
theorem w_comp {elt t it cond : E} {own : List Nat} {G : Hd → St → Prop} {s : St}
    (k : W (its cl fl it s) fun xs s1 => ∃ I : Nat → List D → St → Prop, I 0 [] s1 ∧ (∀ i acc s (hi : i < xs.length), I i acc s → W (turn cl fl elt t cond own xs[i] s) fun o s' => match o with | some y => acc.length < sizeLine ∧ I (i + 1) (acc ++ [y]) s' | none => I (i + 1) acc s') ∧
      ∀ acc s, I xs.length acc s → G (.tmp (.lst acc)) ⟨backE s1.e (wipeE s.e own) own, s.h⟩) : W (hd cl fl (.comp elt t it cond own) s) G := by
  unfold hd
  rw [w_bind]
  refine k.mono fun xs s1 ⟨I, h0, st, fin⟩ => ?_
  have main : W (compL (turn cl fl elt t cond own) xs [] s1) fun acc s => G (.tmp (.lst acc)) ⟨backE s1.e (wipeE s.e own) own, s.h⟩ := w_compL I 0 xs [] rfl (Nat.zero_le _) h0 st fin
  show W (match compL (turn cl fl elt t cond own) xs [] s1 with
        | .ok os s' => Res.ok (Hd.tmp (.lst os)) { s' with e := backE s1.e (wipeE s'.e own) own }
        | .exc c v s' => .exc c v s'
        | .bad => .bad) G
  cases h : compL (turn cl fl elt t cond own) xs [] s1 with
  | bad => rw [h] at main; exact main
  | exc c v s => rw [h] at main; exact main
  | ok os s' => rw [h] at main; exact main
end
end Lw

set_option Elab.async false
set_option linter.all false
set_option maxRecDepth 100000
set_option maxHeartbeats 4000000
/-! Lw, part 15: the wishes of each construct -/
namespace Lw
open PySem
section
variable {cl : Cl} {fl : Nat → List Bool} {s : St} {wf : Nat} {G : Hd → St → Prop}
theorem p_var {i : Nat} : W (hd cl fl (.var i) s) G = (match s.e[i]? with | some (.d x) => G (.tmp (.d x)) s | some .hole => False | some _ => G (.slot i) s | none => False) := by
  unfold hd
  cases h : s.e[i]? with
  | none => rfl
  | some o => cases o <;> rfl
theorem p_con {x : D} : W (hd cl fl (.con x) s) G = G (.tmp (.d x)) s := by unfold hd; rfl
theorem p_opt {α : Type} {o : Option α} {s : St} {G : α → St → Prop} : W (opt o s) G = ∃ a, o = some a ∧ G a s := by
  cases o with
  | none => exact propext ⟨fun h => h.elim, fun ⟨a, e, _⟩ => by cases e⟩
  | some a => exact propext ⟨fun h => ⟨a, rfl, h⟩, fun ⟨b, e, k⟩ => by cases e; exact k⟩
theorem p_bin {op : Bop} {a b : E} : W (hd cl fl (.bin op a b) s) G = W (hd cl fl a s) fun x s => W (hd cl fl b s) fun y s => W (look x s) fun p s => W (look y s) fun q s => ∃ r, binop op p q = some r ∧ G (.tmp r) s := by
  rw [hd]
  simp only [w_bind, p_opt, w_ret]
theorem p_neg {a : E} : W (hd cl fl (.neg a) s) G = W (hd cl fl a s) fun x s => W (intOf x s) fun i s => G (.tmp (.d (.int (-i)))) s := by
  rw [hd]
  simp only [w_bind, p_opt, w_ret]
theorem p_cmp {op : Cop} {a b : E} : W (hd cl fl (.cmp op a b) s) G = W (hd cl fl a s) fun x s => W (hd cl fl b s) fun y s => W (look x s) fun p s => W (look y s) fun q s => ∃ r, cmpop op p q = some r ∧ G (.tmp (.d (.bl r))) s := by
  rw [hd]
  simp only [w_bind, p_opt, w_ret]
theorem p_chn {o1 o2 : Cop} {a b c : E} : W (hd cl fl (.chn o1 o2 a b c) s) G = W (hd cl fl a s) fun x s => W (hd cl fl b s) fun y s => W (look x s) fun p s => W (look y s) fun q s => ∃ r, cmpop o1 p q = some r ∧
    if r = true then (W (hd cl fl c s) fun z s => W (look y s) fun q s => W (look z s) fun u s => ∃ r, cmpop o2 q u = some r ∧ G (.tmp (.d (.bl r))) s) else G (.tmp (.d (.bl false))) s := by
  rw [hd]
  simp only [w_bind, p_opt, w_iteM, w_ret]
theorem p_oneE {a : E} : W (hd cl fl (.one a) s) G = W (hd cl fl a s) G := by rw [hd]
theorem p_and {a b : E} : W (hd cl fl (.and a b) s) G = W (hd cl fl a s) fun x s => W (truth x s) fun c s => if c = true then W (hd cl fl b s) G else G (.tmp (.d (.bl false))) s := by
  rw [hd]
  simp only [w_bind, w_iteM, w_ret]
theorem p_or {a b : E} : W (hd cl fl (.or a b) s) G = W (hd cl fl a s) fun x s => W (truth x s) fun c s => if c = true then G (.tmp (.d (.bl true))) s else W (hd cl fl b s) G := by
  rw [hd]
  simp only [w_bind, w_iteM, w_ret]
theorem p_not {a : E} : W (hd cl fl (.not a) s) G = W (hd cl fl a s) fun x s => W (truth x s) fun c s => G (.tmp (.d (.bl !c))) s := by
  rw [hd]
  simp only [w_bind, w_ret]
theorem p_ite {c a b : E} : W (hd cl fl (.ite c a b) s) G = W (hd cl fl c s) fun x s => W (truth x s) fun k s => if k = true then W (hd cl fl a s) G else W (hd cl fl b s) G := by
  rw [hd]
  simp only [w_bind, w_iteM]
theorem p_tup {es : E} : W (hd cl fl (.tup es) s) G = W (evs cl fl es s) fun xs s => line xs.length = true ∧ G (.tmp (.d (.tup xs))) s := by
  rw [hd, w_bind]
  congr 1
  funext xs s
  rw [w_iteM]
  by_cases h : line xs.length = true
  · rw [if_pos h]; exact propext ⟨fun k => ⟨h, k⟩, fun k => k.2⟩
  · rw [if_neg h]; exact propext ⟨fun k => k.elim, fun k => h k.1⟩
theorem p_lst {es : E} : W (hd cl fl (.lst es) s) G = W (evs cl fl es s) fun xs s => line xs.length = true ∧ G (.tmp (.lst xs)) s := by
  rw [hd, w_bind]
  congr 1
  funext xs s
  rw [w_iteM]
  by_cases h : line xs.length = true
  · rw [if_pos h]; exact propext ⟨fun k => ⟨h, k⟩, fun k => k.2⟩
  · rw [if_neg h]; exact propext ⟨fun k => k.elim, fun k => h k.1⟩
theorem p_idx {a b : E} : W (hd cl fl (.idx a b) s) G = W (hd cl fl a s) fun x s => W (hd cl fl b s) fun y s => W (look x s) fun p s => W (look y s) fun q s => ∃ r, getIdx p q = some r ∧ G (.tmp (.d r)) s := by
  rw [hd]
  simp only [w_bind, p_opt, w_ret]
theorem p_rev {a : E} : W (hd cl fl (.rev a) s) G = W (hd cl fl a s) fun x s => W (look x s) fun p s => ∃ r, getRev p = some r ∧ G (.tmp r) s := by
  rw [hd]
  simp only [w_bind, w_ret, p_opt]
theorem p_stp {a : E} {k : Nat} : W (hd cl fl (.stp a k) s) G = W (hd cl fl a s) fun x s => W (look x s) fun p s => ∃ r, getStp k p = some r ∧ G (.tmp r) s := by
  rw [hd]
  simp only [w_bind, w_ret, p_opt]
theorem p_rngl {a : E} : W (hd cl fl (.rngl a) s) G = W (hd cl fl a s) fun x s => W (intOf x s) fun i s => (-(2 ^ 62) ≤ i ∧ i ≤ 2 ^ 24) ∧ G (.tmp (.lst (rngD 0 i.toNat))) s := by
  rw [hd]
  simp only [w_bind]
  congr 1
  funext x s
  congr 1
  funext i s
  by_cases h : -(2 ^ 62) ≤ i ∧ i ≤ 2 ^ 24
  · have hb : (decide (-(2 ^ 62) ≤ i) && decide (i ≤ 2 ^ 24)) = true := by simp only [Bool.and_eq_true, decide_eq_true_eq]; exact h
    rw [if_pos hb, w_ret]
    simp only [h, true_and, and_self]
  · have hb : ¬ (decide (-(2 ^ 62) ≤ i) && decide (i ≤ 2 ^ 24)) = true := by simp only [Bool.and_eq_true, decide_eq_true_eq]; exact h
    rw [if_neg hb]
    simp only [h, false_and]
    rfl
theorem p_rngt {a : E} : W (hd cl fl (.rngt a) s) G = W (hd cl fl a s) fun x s => W (intOf x s) fun i s => (-(2 ^ 62) ≤ i ∧ i ≤ 2 ^ 24) ∧ G (.tmp (.d (.tup (rngD 0 i.toNat)))) s := by
  rw [hd]
  simp only [w_bind]
  congr 1
  funext x s
  congr 1
  funext i s
  by_cases h : -(2 ^ 62) ≤ i ∧ i ≤ 2 ^ 24
  · have hb : (decide (-(2 ^ 62) ≤ i) && decide (i ≤ 2 ^ 24)) = true := by simp only [Bool.and_eq_true, decide_eq_true_eq]; exact h
    rw [if_pos hb, w_ret]
    simp only [h, true_and, and_self]
  · have hb : ¬ (decide (-(2 ^ 62) ≤ i) && decide (i ≤ 2 ^ 24)) = true := by simp only [Bool.and_eq_true, decide_eq_true_eq]; exact h
    rw [if_neg hb]
    simp only [h, false_and]
    rfl
theorem p_fst {a b : E} {z : Str} : W (hd cl fl (.fst a z b) s) G = W (hd cl fl a s) fun x s => W (look x s) fun p s => ∃ s1, fmtV p = some s1 ∧ line (s1 ++ z).length = true ∧ W (hd cl fl b s) fun y s => W (look y s) fun q s => ∃ s2, fmtV q = some s2 ∧ line (s1 ++ z ++ s2).length = true ∧ G (.tmp (.d (.str (s1 ++ z ++ s2)))) s := by
  rw [hd]
  simp only [w_bind, p_opt]
  congr 1
  funext x s
  congr 1
  funext p s
  congr 1
  funext s1
  congr 1
  by_cases h1 : line (s1 ++ z).length = true
  · simp only [h1, if_true, true_and, w_bind, p_opt]
    congr 1
    funext y s
    congr 1
    funext q s
    congr 1
    funext s2
    congr 1
    by_cases hl : line (s1 ++ z ++ s2).length = true
    · simp only [hl, if_true, w_ret, true_and]
    · rw [if_neg hl]
      simp only [hl, false_and]
      exact propext ⟨fun h => h.elim, fun h => by simp at h⟩
  · rw [if_neg h1]
    simp only [h1, false_and]
    exact propext ⟨fun h => h.elim, fun h => by simp at h⟩
theorem p_sumS {a : E} : W (hd cl fl (.sumS a) s) G = W (hd cl fl a s) fun x s => W (look x s) fun p s => ∃ r, sumS p = some r ∧ G (.tmp r) s := by
  rw [hd]
  simp only [w_bind, w_ret, p_opt]
theorem p_sl {a lo hi : E} : W (hd cl fl (.sl a lo hi) s) G = W (hd cl fl a s) fun x s => W (part cl fl lo s) fun l s => W (part cl fl hi s) fun u s => W (look x s) fun p s => ∃ r, getCut p l u = some r ∧ G (.tmp r) s := by
  rw [hd]
  simp only [w_bind, p_opt, w_ret]
theorem p_blt {b : Bi} {es : E} : W (hd cl fl (.blt b es) s) G = W (hds cl fl es s) fun xs s => W (looks xs s) fun os s => ∃ r, bltop b os = some r ∧ G (.tmp r) s := by
  rw [hd]
  simp only [w_bind, p_opt, w_ret]
theorem p_app {o e : E} : W (hd cl fl (.app o e) s) G = W (hd cl fl o s) fun x s => W (look x s) fun p s => recv .pop p = true ∧ W (hd cl fl e s) fun y s => W (take y s) fun q s => W (stow (fresh e) q s) fun v s => W (modL x (fApp v) s) fun r s => G (.tmp (.d r)) s := by
  rw [hd, w_bind]
  congr 1; funext x s
  rw [w_bind]
  congr 1; funext p s
  rw [w_iteM]
  by_cases h : recv .pop p = true
  · rw [if_pos h]
    simp only [w_bind, w_ret, h, true_and]
  · rw [if_neg h]; exact propext ⟨fun k => k.elim, fun k => h k.1⟩
theorem p_mth {m : Mi} {o es : E} : W (hd cl fl (.mth m o es) s) G = W (hd cl fl o s) fun x s => W (look x s) fun p s => recv m p = true ∧ W (hds cl fl es s) fun xs s => W (looks xs s) fun vs s => match mutop m with
    | some f => W (modL x (fun os => f os vs) s) fun r s => G (.tmp (.d r)) s
    | none => W (look x s) fun q s => ∃ r, tellop m q vs = some r ∧ G (.tmp r) s := by
  rw [hd, w_bind]
  congr 1; funext x s
  rw [w_bind]
  congr 1; funext p s
  rw [w_iteM]
  by_cases h : recv m p = true
  · rw [if_pos h]
    cases mutop m <;> simp only [w_bind, w_ret, h, true_and, p_opt]
  · rw [if_neg h]; exact propext ⟨fun k => k.elim, fun k => h k.1⟩
theorem p_fld {o : E} {f : Str} : W (hd cl fl (.fld o f) s) G = W (hd cl fl o s) fun x s => W (fldOf x f s) fun v s => G (.tmp (.d v)) s := by
  rw [hd]
  simp only [w_bind, w_ret]
/-! handles -/
theorem p_lookT {o : O} {G : O → St → Prop} : W (look (.tmp o) s) G = W (hdOf o s) G := rfl
theorem p_lookS {i : Nat} {G : O → St → Prop} : W (look (.slot i) s) G = (match s.e[i]? with | some o => W (hdOf o s) G | none => False) := by
  unfold look
  cases h : s.e[i]? <;> simp only [h] <;> rfl
theorem p_h_non {G : O → St → Prop} : W (hdOf (.d .non) s) G = G (.d .non) s := rfl
theorem p_h_bl {b : Bool} {G : O → St → Prop} : W (hdOf (.d (.bl b)) s) G = G (.d (.bl b)) s := rfl
theorem p_h_int {b : Int} {G : O → St → Prop} : W (hdOf (.d (.int b)) s) G = G (.d (.int b)) s := rfl
theorem p_h_str {b : Str} {G : O → St → Prop} : W (hdOf (.d (.str b)) s) G = G (.d (.str b)) s := rfl
theorem p_h_ty {b : String} {G : O → St → Prop} : W (hdOf (.d (.ty b)) s) G = G (.d (.ty b)) s := rfl
theorem p_h_tup {b : List D} {G : O → St → Prop} : W (hdOf (.d (.tup b)) s) G = G (.d (.tup b)) s := rfl
theorem p_h_dl {b : List D} {G : O → St → Prop} : W (hdOf (.d (.lst b)) s) G = G (.d (.lst b)) s := rfl
theorem p_h_scr {b : List Int} {G : O → St → Prop} : W (hdOf (.d (.scr b)) s) G = G (.d (.scr b)) s := rfl
theorem p_h_lst {b : List D} {G : O → St → Prop} : W (hdOf (.lst b) s) G = G (.lst b) s := rfl
theorem p_h_ref {n : Nat} {G : O → St → Prop} : W (hdOf (.d (.ref n)) s) G = (match s.h[n]? with | some .hole => False | some o => G o s | none => False) := by
  unfold hdOf
  cases h : s.h[n]? with
  | none => simp only [h]; rfl
  | some o => cases o <;> simp only [h] <;> rfl
theorem p_takeT {o : O} {G : O → St → Prop} : W (take (.tmp o) s) G = G o s := rfl
theorem p_takeS {i : Nat} {G : O → St → Prop} : W (take (.slot i) s) G = (match s.e[i]? with | some o => (match frz o with | some x => G (.d x) { s with e := s.e.set i (.d x) } | none => False) | none => False) := by
  unfold take
  cases h : s.e[i]? with
  | none => simp only [h]; rfl
  | some o => cases h2 : frz o <;> simp only [h, h2] <;> rfl
theorem p_asD {o : O} {G : D → St → Prop} : W (asD o s) G = ∃ x, frz o = some x ∧ G x s := p_opt
theorem p_int {i : Int} {G : Int → St → Prop} : W (intOf (.tmp (.d (.int i))) s) G = G i s := rfl
theorem p_truth {b : Bool} {G : Bool → St → Prop} : W (truth (.tmp (.d (.bl b))) s) G = G b s := rfl
theorem p_stow_d {b : Bool} {x : D} {G : D → St → Prop} : W (stow b (.d x) s) G = G x s := by cases b <;> rfl
theorem p_stow_nil {G : D → St → Prop} : W (stow true (.lst []) s) G = G (.ref s.h.length) ⟨s.e, s.h ++ [.lst []]⟩ := rfl
theorem p_stow_cons {x : D} {xs : List D} {G : D → St → Prop} : W (stow true (.lst (x :: xs)) s) G = G (.lst (x :: xs)) s := rfl
theorem p_looks0 {G : List O → St → Prop} : W (looks [] s) G = G [] s := rfl
theorem p_looks1 {x : Hd} {xs : List Hd} {G : List O → St → Prop} : W (looks (x :: xs) s) G = W (look x s) fun o s => W (looks xs s) fun os s => G (o :: os) s := by
  rw [looks]
  simp only [w_bind, w_ret]
theorem p_modS {k : Nat} {f : List D → Option (List D × D)} {G : D → St → Prop} : W (modL (.slot k) f s) G = (match s.e[k]? with | some (.lst xs) => (∃ p, f xs = some p ∧ G p.2 { s with e := s.e.set k (.lst p.1) }) | _ => False) := by
  unfold modL
  cases h : s.e[k]? with
  | none => simp only [h]; rfl
  | some o =>
    cases o <;> simp only [h] <;> first | rfl | skip
    rename_i xs
    cases hf : f xs with
    | none => exact propext ⟨fun k => k.elim, fun ⟨p, e, _⟩ => by cases e⟩
    | some p => exact propext ⟨fun k => ⟨p, rfl, k⟩, fun ⟨q, e, k⟩ => by cases e; exact k⟩
theorem p_modR {k : Nat} {f : List D → Option (List D × D)} {G : D → St → Prop} : W (modL (.tmp (.d (.ref k))) f s) G = (match s.h[k]? with | some (.lst xs) => (∃ p, f xs = some p ∧ G p.2 { s with h := s.h.set k (.lst p.1) }) | _ => False) := by
  unfold modL
  cases h : s.h[k]? with
  | none => simp only [h]; rfl
  | some o =>
    cases o <;> simp only [h] <;> first | rfl | skip
    rename_i xs
    cases hf : f xs with
    | none => exact propext ⟨fun k => k.elim, fun ⟨p, e, _⟩ => by cases e⟩
    | some p => exact propext ⟨fun k => ⟨p, rfl, k⟩, fun ⟨q, e, k⟩ => by cases e; exact k⟩
/-! lists of expressions -/
theorem p_evs0 {G : List D → St → Prop} : W (evs cl fl .nil s) G = G [] s := by rw [evs]; rfl
theorem p_evs1 {e es : E} {G : List D → St → Prop} : W (evs cl fl (.cons e es) s) G = W (hd cl fl e s) fun x s => W (take x s) fun o s => W (stow (fresh e) o s) fun v s => W (evs cl fl es s) fun os s => G (v :: os) s := by
  rw [evs]
  simp only [w_bind, w_ret]
theorem p_hds0 {G : List Hd → St → Prop} : W (hds cl fl .nil s) G = G [] s := by rw [hds]; rfl
theorem p_hds1 {e es : E} {G : List Hd → St → Prop} : W (hds cl fl (.cons e es) s) G = W (hd cl fl e s) fun x s => W (hds cl fl es s) fun xs s => G (x :: xs) s := by
  rw [hds]
  simp only [w_bind, w_ret]
theorem p_avs0 {ps : List Bool} {G : List O → St → Prop} : W (avs cl fl ps .nil s) G = G [] s := by rw [avs]; rfl
theorem p_avs1 {ps : List Bool} {e es : E} {G : List O → St → Prop} : W (avs cl fl ps (.cons e es) s) G = W (hd cl fl e s) fun x s => W (argM (ps.headD false) x s) fun o s => W (avs cl fl ps.tail es s) fun os s => G (o :: os) s := by
  rw [avs]
  simp only [w_bind, w_ret]
theorem p_argD {p : Bool} {x : D} {G : O → St → Prop} : W (argM p (.tmp (.d x)) s) G = G (.d x) s := rfl
theorem p_argL {xs : List D} {G : O → St → Prop} : W (argM false (.tmp (.lst xs)) s) G = G (.d (.lst xs)) s := rfl
theorem p_argLt {xs : List D} {G : O → St → Prop} : W (argM true (.tmp (.lst xs)) s) G = G (.d (.ref s.h.length)) ⟨s.e, s.h ++ [.lst xs]⟩ := rfl
theorem p_argS {i : Nat} {G : O → St → Prop} : W (argM false (.slot i) s) G = W (take (.slot i) s) G := rfl
theorem p_argSt {i : Nat} {G : O → St → Prop} : W (argM true (.slot i) s) G = (match s.e[i]? with | some (.d y) => G (.d y) s | some .hole => False | some o => G (.d (.ref s.h.length)) ⟨s.e.set i (.d (.ref s.h.length)), s.h ++ [o]⟩ | none => False) := by
  show W ((fun s : St => match s.e[i]? with
      | some (O.d y) => Res.ok (O.d y) s
      | some O.hole => Res.bad
      | some o => Res.ok (O.d (D.ref s.h.length)) { e := s.e.set i (O.d (D.ref s.h.length)), h := s.h ++ [o] }
      | none => Res.bad) s) G = _
  dsimp only
  cases h : s.e[i]? with
  | none => simp only [h]; rfl
  | some o => cases o <;> simp only [h] <;> rfl
theorem p_part0 {G : Option Int → St → Prop} : W (part cl fl .nil s) G = G none s := by rw [part]; rfl
theorem p_part1 {e : E} {G : Option Int → St → Prop} : W (part cl fl (.one e) s) G = W (hd cl fl e s) fun x s => W (intOf x s) fun i s => G (some i) s := by
  rw [part]
  simp only [w_bind, w_ret]
theorem p_seq {a : E} {G : List D → St → Prop} : W (its cl fl (.seq a) s) G = W (hd cl fl a s) fun x s => W (take x s) fun o s => ∃ y, frz o = some y ∧ ∃ xs, itsOf (.d y) = some xs ∧ G xs s := by
  rw [its]
  simp only [w_bind, w_ret, p_asD, p_opt]
theorem p_rng1 {a : E} {G : List D → St → Prop} : W (its cl fl (.rng1 a) s) G = W (hd cl fl a s) fun x s => W (intOf x s) fun i s => rngOk i = true ∧ G (rngD 0 i.toNat) s := by
  rw [its, w_bind]
  congr 1; funext x s
  rw [w_bind]
  congr 1; funext i s
  rw [w_iteM]
  by_cases h : rngOk i = true
  · rw [if_pos h]; exact propext ⟨fun k => ⟨h, k⟩, fun k => k.2⟩
  · rw [if_neg h]; exact propext ⟨fun k => k.elim, fun k => h k.1⟩
theorem p_rng2 {a b : E} {G : List D → St → Prop} : W (its cl fl (.rng2 a b) s) G = W (hd cl fl a s) fun x s => W (hd cl fl b s) fun y s => W (intOf x s) fun i s => W (intOf y s) fun j s => (rngOk i && rngOk j) = true ∧ G (rngD i (j - i).toNat) s := by
  rw [its, w_bind]
  congr 1; funext x s
  rw [w_bind]
  congr 1; funext y s
  rw [w_bind]
  congr 1; funext i s
  rw [w_bind]
  congr 1; funext j s
  rw [w_iteM]
  by_cases h : (rngOk i && rngOk j) = true
  · rw [if_pos h]; exact propext ⟨fun k => ⟨h, k⟩, fun k => k.2⟩
  · rw [if_neg h]; exact propext ⟨fun k => k.elim, fun k => h k.1⟩
theorem p_enmS {a : E} {G : List D → St → Prop} (k : W (hd cl fl a s) fun x s => W (take x s) fun o s => (∃ z, frz o = some (.str z) ∧ G (numbered (signs z)) s) ∨ (∃ z, frz o = some (.lst z) ∧ G (numbered z) s)) : W (its cl fl (.enm a) s) G := by
  rw [its]
  simp only [w_bind, p_asD, p_opt]
  refine k.mono fun x s k => k.mono fun o s k => ?_
  rcases k with ⟨z, e, k⟩ | ⟨z, e, k⟩
  · exact ⟨_, e, _, rfl, k⟩
  · exact ⟨_, e, _, rfl, k⟩
/-! targets -/
theorem p_aVar {i : Nat} {o : O} {G : Unit → St → Prop} : W (asg cl fl (.var i) o s) G = (i < s.e.length ∧ G () { s with e := s.e.set i o }) := by
  rw [asg]
  dsimp only
  by_cases h : i < s.e.length
  · rw [decide_eq_true h, if_pos rfl]; exact propext ⟨fun k => ⟨h, k⟩, fun k => k.2⟩
  · rw [decide_eq_false h, if_neg (by decide)]; exact propext ⟨fun k => k.elim, fun k => h k.1⟩
theorem p_aTup {es : E} {o : O} {G : Unit → St → Prop} : W (asg cl fl (.tup es) o s) G = ∃ xs, unpk o = some xs ∧ W (asgs cl fl es xs s) G := by
  rw [asg, w_bind, p_opt]
theorem p_aIdx {a b : E} {o : O} {G : Unit → St → Prop} : W (asg cl fl (.idx a b) o s) G = W (hd cl fl a s) fun x s => W (hd cl fl b s) fun y s => W (setI x y o s) G := by
  rw [asg]
  simp only [w_bind, w_ret]
theorem p_setI {x : Hd} {i : Int} {o : O} {G : Unit → St → Prop} : W (setI x (.tmp (.d (.int i))) o s) G = ∃ v, frz o = some v ∧ W (modL x (fSet i v) s) fun _ s => G () s := by
  unfold setI
  simp only [w_bind, w_ret, p_asD]
theorem p_setS {x : Hd} {z : Str} {o : O} {G : Unit → St → Prop} : W (setI x (.tmp (.d (.str z))) o s) G = ∃ v, frz o = some v ∧ W (modK x (fPut (.inr z) v) s) G := by
  unfold setI
  simp only [w_bind, w_ret, p_asD]
theorem p_as0 {G : Unit → St → Prop} : W (asgs cl fl .nil [] s) G = G () s := by rw [asgs]; rfl
theorem p_as1 {t ts : E} {x : D} {xs : List D} {G : Unit → St → Prop} : W (asgs cl fl (.cons t ts) (x :: xs) s) G = W (asg cl fl t (.d x) s) fun _ s => W (asgs cl fl ts xs s) G := by
  rw [asgs, w_bind]
/-! statements -/
variable {F : Flow → St → Prop}
theorem p_nilS : W (ex cl fl wf .nil s) F = F .next s := by rw [ex]; rfl
theorem p_sq {a b : S} : W (ex cl fl wf (.sq a b) s) F = W (ex cl fl wf a s) fun w s => match w with | .next => W (ex cl fl wf b s) F | .brk => F .brk s | .cont => F .cont s | .ret o => F (.ret o) s := by
  rw [ex, w_bind]
  congr 1; funext w s
  cases w <;> rfl
theorem p_expr {e : E} : W (ex cl fl wf (.expr e) s) F = W (hd cl fl e s) fun _ s => F .next s := by
  rw [ex]
  simp only [w_bind, w_ret]
theorem p_asg {t e : E} : W (ex cl fl wf (.asg t e) s) F = W (hd cl fl e s) fun x s => W (take x s) fun o s => W (asg cl fl t o s) fun _ s => F .next s := by
  rw [ex]
  simp only [w_bind, w_ret]
theorem p_ret {e : E} : W (ex cl fl wf (.ret e) s) F = W (hd cl fl e s) fun x s => W (moveM x s) fun o s => F (.ret o) s := by
  rw [ex]
  simp only [w_bind, w_ret]
theorem p_retN : W (ex cl fl wf .retN s) F = F (.ret (.d .non)) s := by rw [ex]; rfl
theorem p_iteS {c : E} {a b : S} : W (ex cl fl wf (.ite c a b) s) F = W (hd cl fl c s) fun x s => W (truth x s) fun k s => if k = true then W (ex cl fl wf a s) F else W (ex cl fl wf b s) F := by
  rw [ex]
  simp only [w_bind, w_iteM]
theorem p_for {t it : E} {b : S} : W (ex cl fl wf (.for t it b) s) F = W (its cl fl it s) fun xs s => W (forL (fun x => (asg cl fl t (.d x)).bind fun _ => ex cl fl wf b) xs s) F := by
  rw [ex]
  simp only [w_bind]
theorem p_pass : W (ex cl fl wf .pass s) F = F .next s := by rw [ex]; rfl
theorem p_brk : W (ex cl fl wf .brk s) F = F .brk s := by rw [ex]; rfl
theorem p_contS : W (ex cl fl wf .cont s) F = F .cont s := by rw [ex]; rfl
theorem p_aug {i : Nat} {op : Bop} {e : E} : W (ex cl fl wf (.aug i op e) s) F = W (hd cl fl (.var i) s) fun x s => W (hd cl fl e s) fun y s => W (intOf x s) fun a s => W (intOf y s) fun b s => ∃ r, augI op a b = some r ∧ W (asg cl fl (.var i) (.d (.int r)) s) fun _ s => F .next s := by
  rw [ex]
  simp only [w_bind, w_ret, p_opt]
theorem p_moveT {o : O} {G : O → St → Prop} : W (moveM (.tmp o) s) G = G o s := rfl
theorem p_moveS {i : Nat} {G : O → St → Prop} : W (moveM (.slot i) s) G = (match s.e[i]? with | some .hole => False | some o => G o { s with e := s.e.set i .hole } | none => False) := by
  unfold moveM
  cases h : s.e[i]? with
  | none => simp only [h]; rfl
  | some o => cases o <;> simp only [h] <;> rfl
/-- the turn of a comprehension -/
theorem p_turn {elt t cond : E} {own : List Nat} {x : D} {s : St} {G : Option D → St → Prop} : W (turn cl fl elt t cond own x s) G = W (asg cl fl t (.d x) { s with e := wipeE s.e own }) fun _ s => W (hd cl fl cond s) fun z s => W (truth z s) fun k s =>
    if k = true then (W (hd cl fl elt s) fun y s => W (take y s) fun o s => W (stow (fresh elt) o s) fun v s => G (some v) s) else G none s := by
  unfold turn
  simp only [w_bind, w_iteM, w_ret]
/-! objects of classes -/
theorem p_omt {m : Str} {o es : E} : W (hd cl fl (.omt m o es) s) G = W (hd cl fl o s) fun x s => W (clsOf x m s) fun c s => ∃ f, cl.mt c.1 m = some f ∧ W (avs cl fl (fl f).tail es s) fun os s => Wc (cl.fn f (.d (.ref c.2) :: os) s.h) fun o h' => G (.tmp o) ⟨s.e, h'⟩ := by
  rw [hd, w_bind]
  congr 1; funext x s
  rw [w_bind]
  congr 1; funext c s
  cases hm : cl.mt c.1 m with
  | none => exact propext ⟨fun k => k.elim, fun ⟨f, e, _⟩ => by cases e⟩
  | some f =>
    have e : W ((avs cl fl (fl f).tail es).bind (fun os s => (match runCl (cl.fn f (.d (.ref c.2) :: os) s.h) s.e with | .ok o s => Res.ok (Hd.tmp o) s | .exc c v s => .exc c v s | .bad => .bad)) s) G
        = W (avs cl fl (fl f).tail es s) fun os s => Wc (cl.fn f (.d (.ref c.2) :: os) s.h) fun o h' => G (.tmp o) ⟨s.e, h'⟩ := by
      rw [w_bind]
      congr 1; funext os s
      cases cl.fn f (.d (.ref c.2) :: os) s.h <;> rfl
    exact e.trans (propext ⟨fun k => ⟨f, rfl, k⟩, fun ⟨_, e, k⟩ => by cases e; exact k⟩)
def newK (G : Hd → St → Prop) (r : Nat) (e : List O) : O → List O → Prop | .d .non, h' => G (.tmp (.d (.ref r))) ⟨e, h'⟩ | _, _ => False
theorem p_new {c : Nat} {es : E} : W (hd cl fl (.new c es) s) G = ∃ f, cl.ini c = some f ∧ W (avs cl fl (fl f).tail es s) fun os s => Wc (cl.fn f (.d (.ref s.h.length) :: os) (s.h ++ [.ins c []])) (newK G s.h.length s.e) := by
  rw [hd]
  cases hm : cl.ini c with
  | none => exact propext ⟨fun k => k.elim, fun ⟨f, e, _⟩ => by cases e⟩
  | some f =>
    have e : W ((avs cl fl (fl f).tail es).bind (fun os s => (match runCl (cl.fn f (.d (.ref s.h.length) :: os) (s.h ++ [.ins c []])) s.e with
        | .ok (.d .non) s' => Res.ok (Hd.tmp (.d (.ref s.h.length))) s' | .ok _ _ => .bad | .exc c v s => .exc c v s | .bad => .bad)) s) G
        = W (avs cl fl (fl f).tail es s) fun os s => Wc (cl.fn f (.d (.ref s.h.length) :: os) (s.h ++ [.ins c []])) (newK G s.h.length s.e) := by
      rw [w_bind]
      congr 1; funext os s
      cases cl.fn f (.d (.ref s.h.length) :: os) (s.h ++ [.ins c []]) with
      | ok o h' => cases o with
        | d x => cases x <;> rfl
        | _ => rfl
      | exc c v h' => rfl
      | bad => rfl
    exact e.trans (propext ⟨fun k => ⟨f, rfl, k⟩, fun ⟨_, e, k⟩ => by cases e; exact k⟩)
def fdK (f : Str) (G : D → Prop) : O → Prop | .ins _ fs => ∃ v, fs.lookup f = some v ∧ G v | _ => False
theorem p_fldOf {n : Nat} {f : Str} {G : D → St → Prop} : W (fldOf (.tmp (.d (.ref n))) f s) G = (match s.h[n]? with | some o => fdK f (fun v => G v s) o | none => False) := by
  unfold fldOf
  dsimp only
  cases h : s.h[n]? with
  | none => rfl
  | some o =>
    cases o <;> first | rfl | skip
    exact p_opt
def clK (m : Str) (G : Nat → Prop) : O → Prop | .ins c fs => fs.lookup m = none ∧ G c | _ => False
theorem p_clsOf {n : Nat} {m : Str} {G : Nat × Nat → St → Prop} : W (clsOf (.tmp (.d (.ref n))) m s) G = (match s.h[n]? with | some o => clK m (fun c => G (c, n) s) o | none => False) := by
  unfold clsOf
  dsimp only
  cases h : s.h[n]? with
  | none => rfl
  | some o =>
    cases o <;> first | rfl | skip
    rename_i c fs
    show W (match fs.lookup m with | none => Res.ok (c, n) s | some _ => .bad) G = (fs.lookup m = none ∧ G (c, n) s)
    cases hl : fs.lookup m with
    | none => exact propext ⟨fun k => ⟨rfl, k⟩, fun k => k.2⟩
    | some v => exact propext ⟨fun k => k.elim, fun k => by cases k.1⟩
def sfK (f : Str) (v : D) (G : O → Prop) : O → Prop | .ins c fs => fs.length < 1000 ∧ G (.ins c (setFs f v fs)) | _ => False
theorem p_setFld {n : Nat} {f : Str} {v : D} {G : Unit → St → Prop} : W (setFld (.tmp (.d (.ref n))) f v s) G = (match s.h[n]? with | some o => sfK f v (fun o => G () { s with h := s.h.set n o }) o | none => False) := by
  unfold setFld
  dsimp only
  cases h : s.h[n]? with
  | none => rfl
  | some o =>
    cases o <;> first | rfl | skip
    rename_i c fs
    show W (if decide (fs.length < 1000) = true then Res.ok () { s with h := s.h.set n (.ins c (setFs f v fs)) } else .bad) G = _
    by_cases hl : fs.length < 1000
    · rw [if_pos (decide_eq_true hl)]; exact propext ⟨fun k => ⟨hl, k⟩, fun k => k.2⟩
    · rw [if_neg (by simpa using hl)]; exact propext ⟨fun k => k.elim, fun k => hl k.1⟩
theorem p_publD {x : D} {G : D → St → Prop} : W (publ (.d x) s) G = G x s := rfl
theorem p_publL {x : List D} {G : D → St → Prop} : W (publ (.lst x) s) G = G (.ref s.h.length) ⟨s.e, s.h ++ [.lst x]⟩ := rfl
theorem p_publK {x : List (L2.Key × D)} {G : D → St → Prop} : W (publ (.dct x) s) G = G (.ref s.h.length) ⟨s.e, s.h ++ [.dct x]⟩ := rfl
theorem p_aFld {a : E} {f : Str} {o : O} {G : Unit → St → Prop} : W (asg cl fl (.fld a f) o s) G = W (hd cl fl a s) fun x s => W (publ o s) fun v s => W (setFld x f v s) G := by
  rw [asg]
  simp only [w_bind]
theorem p_augF {o : E} {f : Str} {op : Bop} {e : E} : W (ex cl fl wf (.augF o f op e) s) F = W (hd cl fl o s) fun x s => W (fldOf x f s) fun v s => W (hd cl fl e s) fun y s => W (intOf (.tmp (.d v)) s) fun a s => W (intOf y s) fun b s => ∃ r, augI op a b = some r ∧ W (setFld x f (.int r) s) fun _ s => F .next s := by
  rw [ex]
  simp only [w_bind, w_ret, p_opt]
end
end Lw

set_option Elab.async false
set_option linter.all false
set_option maxRecDepth 100000
set_option maxHeartbeats 4000000
/-! Lw, part 16: leaves -/
namespace Lw
open PySem
section
variable {cl : Cl} {fl : Nat → List Bool} {s : St} {wf : Nat} {e h : List O} {i j : Int}
theorem q_varD {k : Nat} {x : D} {G : Hd → St → Prop} (hx : s.e[k]? = some (.d x)) (q : G (.tmp (.d x)) s) : W (hd cl fl (.var k) s) G := by rw [p_var, hx]; exact q
theorem q_varL {k : Nat} {x : List D} {G : Hd → St → Prop} (hx : s.e[k]? = some (.lst x)) (q : G (.slot k) s) : W (hd cl fl (.var k) s) G := by rw [p_var, hx]; exact q
theorem q_lookL {k : Nat} {x : List D} {G : O → St → Prop} (hx : s.e[k]? = some (.lst x)) (q : G (.lst x) s) : W (look (.slot k) s) G := by rw [p_lookS, hx]; exact q
theorem q_lookR {k : Nat} {x : List D} {G : O → St → Prop} (hx : s.h[k]? = some (.lst x)) (q : G (.lst x) s) : W (look (.tmp (.d (.ref k))) s) G := by rw [p_lookT, p_h_ref, hx]; exact q
theorem q_hRef {k : Nat} {x : List D} {G : O → St → Prop} (hx : s.h[k]? = some (.lst x)) (q : G (.lst x) s) : W (hdOf (.d (.ref k)) s) G := q_lookR hx q
theorem q_takeL {k : Nat} {x : List D} {G : O → St → Prop} (hx : s.e[k]? = some (.lst x)) (q : G (.d (.lst x)) { s with e := s.e.set k (.d (.lst x)) }) : W (take (.slot k) s) G := by rw [p_takeS, hx]; exact q
theorem q_argLs {k : Nat} {x : List D} {G : O → St → Prop} (hx : s.e[k]? = some (.lst x)) (q : G (.d (.ref s.h.length)) ⟨s.e.set k (.d (.ref s.h.length)), s.h ++ [.lst x]⟩) : W (argM true (.slot k) s) G := by rw [p_argSt, hx]; exact q
theorem q_argF {k : Nat} {x : List D} {G : O → St → Prop} (hx : s.e[k]? = some (.lst x)) (q : G (.d (.lst x)) { s with e := s.e.set k (.d (.lst x)) }) : W (argM false (.slot k) s) G := q_takeL hx q
theorem q_moveL {k : Nat} {x : List D} {G : O → St → Prop} (hx : s.e[k]? = some (.lst x)) (q : G (.lst x) { s with e := s.e.set k .hole }) : W (moveM (.slot k) s) G := by rw [p_moveS, hx]; exact q
theorem q_modS {k : Nat} {x : List D} {f : List D → Option (List D × D)} {p : List D × D} {G : D → St → Prop} (hx : s.e[k]? = some (.lst x)) (hf : f x = some p) (q : G p.2 { s with e := s.e.set k (.lst p.1) }) : W (modL (.slot k) f s) G := by
  rw [p_modS, hx]; exact ⟨p, hf, q⟩
theorem q_modR {k : Nat} {x : List D} {f : List D → Option (List D × D)} {p : List D × D} {G : D → St → Prop} (hx : s.h[k]? = some (.lst x)) (hf : f x = some p) (q : G p.2 { s with h := s.h.set k (.lst p.1) }) : W (modL (.tmp (.d (.ref k))) f s) G := by
  rw [p_modR, hx]; exact ⟨p, hf, q⟩
theorem q_aVar {k : Nat} {o : O} {G : Unit → St → Prop} (hk : k < s.e.length) (q : G () { s with e := s.e.set k o }) : W (asg cl fl (.var k) o s) G := by rw [p_aVar]; exact ⟨hk, q⟩
theorem q_sq {a b : S} {F : Flow → St → Prop} (q : W (ex cl fl wf a s) fun w s => match w with | .next => W (ex cl fl wf b s) F | .brk => F .brk s | .cont => F .cont s | .ret o => F (.ret o) s) : W (ex cl fl wf (.sq a b) s) F := by rw [p_sq]; exact q
variable {P : O → Prop} {B : Bool → Prop} {R : D → Prop}
theorem b_add (k : P (.d (.int (i + j)))) : ∃ r, binop .add (.d (.int i)) (.d (.int j)) = some r ∧ P r := ⟨_, rfl, k⟩
theorem b_sub (k : P (.d (.int (i - j)))) : ∃ r, binop .sub (.d (.int i)) (.d (.int j)) = some r ∧ P r := ⟨_, rfl, k⟩
theorem b_mulR (hj : small64 j = true) (k : P (.d (.int (i * j)))) : ∃ r, binop .mul (.d (.int i)) (.d (.int j)) = some r ∧ P r := ⟨_, by show (if (small64 i || small64 j) = true then _ else _) = _; rw [hj, Bool.or_true, if_pos rfl], k⟩
theorem b_fdiv (hj : (decide (j ≠ 0) && decide (j.natAbs < 1073741824)) = true) (k : P (.d (.int (i.fdiv j)))) : ∃ r, binop .fdiv (.d (.int i)) (.d (.int j)) = some r ∧ P r := ⟨_, if_pos hj, k⟩
theorem b_mod (hj : j ≠ 0) (k : P (.d (.int (i.fmod j)))) : ∃ r, binop .mod (.d (.int i)) (.d (.int j)) = some r ∧ P r := ⟨_, if_pos (decide_eq_true hj), k⟩
theorem b_addS {x y : Str} (hl : line (x.length + y.length) = true) (k : P (.d (.str (x ++ y)))) : ∃ r, binop .add (.d (.str x)) (.d (.str y)) = some r ∧ P r := ⟨_, if_pos hl, k⟩
theorem b_addT {x y : List D} (hl : line (x.length + y.length) = true) (k : P (.d (.tup (x ++ y)))) : ∃ r, binop .add (.d (.tup x)) (.d (.tup y)) = some r ∧ P r := ⟨_, if_pos hl, k⟩
theorem b_addL {x y : List D} {a b : O} (ha : lv a = some x) (hb : lv b = some y) (hl : line (x.length + y.length) = true) (k : P (.lst (x ++ y))) : ∃ r, binop .add a b = some r ∧ P r := by
  refine ⟨_, ?_, k⟩
  show badd a b = _
  cases a with
  | d a => cases a <;> first | (cases ha; done) | skip
           cases b with
           | d b => cases b <;> first | (cases hb; done) | skip
                    cases ha; cases hb; exact if_pos hl
           | lst b => cases ha; cases hb; exact if_pos hl
           | _ => cases hb
  | lst a => cases b with
             | d b => cases b <;> first | (cases hb; done) | skip
                      cases ha; cases hb; exact if_pos hl
             | lst b => cases ha; cases hb; exact if_pos hl
             | _ => cases hb
  | _ => cases ha
theorem b_lt (k : B (decide (i < j))) : ∃ r, cmpop .lt (.d (.int i)) (.d (.int j)) = some r ∧ B r := ⟨_, rfl, k⟩
theorem b_le (k : B (decide (i ≤ j))) : ∃ r, cmpop .le (.d (.int i)) (.d (.int j)) = some r ∧ B r := ⟨_, rfl, k⟩
theorem b_gt (k : B (decide (j < i))) : ∃ r, cmpop .gt (.d (.int i)) (.d (.int j)) = some r ∧ B r := ⟨_, rfl, k⟩
theorem b_ge (k : B (decide (j ≤ i))) : ∃ r, cmpop .ge (.d (.int i)) (.d (.int j)) = some r ∧ B r := ⟨_, rfl, k⟩
theorem eqo_int : eqo (.d (.int i)) (.d (.int j)) = some (i == j) := rfl
theorem b_eqI (k : B (i == j)) : ∃ r, cmpop .eq (.d (.int i)) (.d (.int j)) = some r ∧ B r := ⟨_, rfl, k⟩
theorem b_neI (k : B (!(i == j))) : ∃ r, cmpop .ne (.d (.int i)) (.d (.int j)) = some r ∧ B r := ⟨_, rfl, k⟩
theorem eqo_str {x y : Str} : eqo (.d (.str x)) (.d (.str y)) = some (decide (x = y)) := rfl
/-- items: known places -/
theorem b_ixL {xs : List D} {x : D} (hx : L2.atI xs i = some x) (k : R x) : ∃ r, getIdx (.lst xs) (.d (.int i)) = some r ∧ R r := ⟨x, hx, k⟩
theorem b_ixD {xs : List D} {x : D} (hx : L2.atI xs i = some x) (k : R x) : ∃ r, getIdx (.d (.lst xs)) (.d (.int i)) = some r ∧ R r := ⟨x, hx, k⟩
theorem b_ixT {xs : List D} {x : D} (hx : L2.atI xs i = some x) (k : R x) : ∃ r, getIdx (.d (.tup xs)) (.d (.int i)) = some r ∧ R r := ⟨x, hx, k⟩
theorem b_lenL {xs : List D} (k : P (.d (.int ((xs.length : Nat) : Int)))) : ∃ r, bltop .len [.lst xs] = some r ∧ P r := ⟨_, rfl, k⟩
theorem b_lenD {xs : List D} (k : P (.d (.int ((xs.length : Nat) : Int)))) : ∃ r, bltop .len [.d (.lst xs)] = some r ∧ P r := ⟨_, rfl, k⟩
theorem b_lenT {xs : List D} (k : P (.d (.int ((xs.length : Nat) : Int)))) : ∃ r, bltop .len [.d (.tup xs)] = some r ∧ P r := ⟨_, rfl, k⟩
theorem b_lenS {x : Str} (hl : line x.length = true) (k : P (.d (.int ((x.length : Nat) : Int)))) : ∃ r, bltop .len [.d (.str x)] = some r ∧ P r := ⟨_, by show (match (if line x.length = true then some x.length else none) with | some n => some (O.d (.int ((n : Nat) : Int))) | none => none) = _; rw [if_pos hl], k⟩
theorem b_tupL {xs : List D} (k : P (.d (.tup xs))) : ∃ r, bltop .tup [.lst xs] = some r ∧ P r := ⟨_, rfl, k⟩
theorem b_tupD {xs : List D} (k : P (.d (.tup xs))) : ∃ r, bltop .tup [.d (.lst xs)] = some r ∧ P r := ⟨_, rfl, k⟩
theorem b_lstS {x : Str} (hl : decide (x.length ≤ 1000000) = true) (k : P (.lst (signs x))) : ∃ r, bltop .lst [.d (.str x)] = some r ∧ P r := ⟨_, if_pos hl, k⟩
theorem b_lstL {xs : List D} (k : P (.lst xs)) : ∃ r, bltop .lst [.lst xs] = some r ∧ P r := ⟨_, rfl, k⟩
theorem b_lstD {xs : List D} (k : P (.lst xs)) : ∃ r, bltop .lst [.d (.lst xs)] = some r ∧ P r := ⟨_, rfl, k⟩
theorem b_lstT {xs : List D} (k : P (.lst xs)) : ∃ r, bltop .lst [.d (.tup xs)] = some r ∧ P r := ⟨_, rfl, k⟩
theorem st_e {e h : List O} : (St.mk e h).e = e := rfl
end
end Lw

set_option Elab.async false
set_option linter.all false
set_option maxRecDepth 100000
set_option maxHeartbeats 4000000
/-! Lw, part 17: plain data: that it can be compared and shown -/
namespace Lw
open PySem
def dk : Nat → D → Prop
  | _, .non => True
  | _, .bl _ => True
  | _, .int _ => True
  | _, .str x => PyData.strOk x = true
  | k + 1, .tup xs => ∀ x ∈ xs, dk k x
  | k + 1, .lst xs => ∀ x ∈ xs, dk k x
  | _, _ => False
theorem pys_ok {k : Nat} (IH : ∀ d : D, dk k d → ∃ p, d.py = some p ∧ p.canLay0 = true ∧ p.depth ≤ k) : ∀ xs : List D, (∀ x ∈ xs, dk k x) → ∃ ps, pys xs = some ps ∧ PyData.canLayAll0 ps = true ∧ PyData.depthAll ps ≤ k
  | [], _ => ⟨[], rfl, rfl, Nat.zero_le _⟩
  | x :: xs, h => by
    obtain ⟨p, e1, e2, e3⟩ := IH x (h x (List.mem_cons_self ..))
    obtain ⟨ps, f1, f2, f3⟩ := pys_ok IH xs fun y hy => h y (List.mem_cons_of_mem _ hy)
    refine ⟨p :: ps, by simp [pys, e1, f1], by simp [PyData.canLayAll0, e2, f2], ?_⟩
    simp only [PyData.depthAll]
    omega
theorem dk_py : ∀ (k : Nat) (d : D), dk k d → ∃ p, d.py = some p ∧ p.canLay0 = true ∧ p.depth ≤ k := by
  intro k
  induction k with
  | zero =>
    intro d h
    cases d with
    | str x => exact ⟨_, by simp [D.py]; rfl, by simpa [PyData.canLay0, dk] using h, by simp [PyData.depth]⟩
    | non => exact ⟨_, by simp [D.py]; rfl, by simp [PyData.canLay0], by simp [PyData.depth]⟩
    | bl b => exact ⟨_, by simp [D.py]; rfl, by simp [PyData.canLay0], by simp [PyData.depth]⟩
    | int b => exact ⟨_, by simp [D.py]; rfl, by simp [PyData.canLay0], by simp [PyData.depth]⟩
    | _ => simp [dk] at h
  | succ k IH =>
    intro d h
    cases d with
    | tup xs =>
      obtain ⟨ps, f1, f2, f3⟩ := pys_ok IH xs h
      exact ⟨.tuple ps, by simp [D.py, f1], by simp [PyData.canLay0, f2], by simp only [PyData.depth]; omega⟩
    | lst xs =>
      obtain ⟨ps, f1, f2, f3⟩ := pys_ok IH xs h
      exact ⟨.list ps, by simp [D.py, f1], by simp [PyData.canLay0, f2], by simp only [PyData.depth]; omega⟩
    | str x => exact ⟨_, by simp [D.py]; rfl, by simpa [PyData.canLay0, dk] using h, by simp [PyData.depth]⟩
    | non => exact ⟨_, by simp [D.py]; rfl, by simp [PyData.canLay0], by simp [PyData.depth]⟩
    | bl b => exact ⟨_, by simp [D.py]; rfl, by simp [PyData.canLay0], by simp [PyData.depth]⟩
    | int b => exact ⟨_, by simp [D.py]; rfl, by simp [PyData.canLay0], by simp [PyData.depth]⟩
    | _ => simp [dk] at h
/-- a list beside the empty one -/
theorem eq_nil {xs : List D} (h : ∀ x ∈ xs, dk 63 x) : eqo (.d (.lst xs)) (.lst []) = some xs.isEmpty ∧ eqo (.lst xs) (.lst []) = some xs.isEmpty := by
  obtain ⟨ps, f1, f2, f3⟩ := pys_ok (dk_py 63) xs h
  have e : PyData.eqv (.list ps) (.list []) = xs.isEmpty := by
    cases xs with
    | nil => simp [pys] at f1; subst f1; rfl
    | cons x xs =>
      simp only [pys] at f1
      split at f1
      · cases f1; rfl
      · cases f1
  have sh : SeqAt.shaped (.list ps) = true := by
    unfold SeqAt.shaped
    rw [show (PyData.list ps).canLay0 = true from by simp [PyData.canLay0, f2], Bool.true_and, decide_eq_true_eq]
    show PyData.depthAll ps + 1 ≤ 64
    exact Nat.succ_le_succ f3
  have m : (D.lst xs).py = some (.list ps) := by simp [D.py, f1]
  have m0 : (D.lst []).py = some (.list []) := by simp [D.py, pys]
  have s0 : SeqAt.shaped (.list []) = true := by decide
  constructor <;> simp [eqo, scEq, eqg, O.py, m, m0, sh, s0, e]
end Lw

set_option Elab.async false
set_option linter.all false
set_option maxRecDepth 100000
set_option maxHeartbeats 4000000
/-! Lw, part 18: the compact form run by rewriting: continuations stand behind a tag, so that simp leaves them alone -/
namespace Lw
open PySem
theorem ofString_inj {a b : String} (h : Str.ofString a = Str.ofString b) : a = b := by
  rw [Str.ofString_eq_toList, Str.ofString_eq_toList] at h
  injection h with h
  have h2 := congrArg Array.toList h
  simp only at h2
  refine String.toList_inj.mp ((List.map_inj_right (f := Char.toNat) ?_).mp h2)
  intro x y e
  exact Char.toNat_inj.mp e
structure Tag {α : Sort u} (a : α) : Type where
inductive V {α : Type} (r : Res α) (G : α → St → Prop) (t : Tag G) : Prop | mk (h : W r G) : V r G t
inductive Vc (r : CRes) (G : O → List O → Prop) (t : Tag G) : Prop | mk (h : Wc r G) : Vc r G t
theorem V_eq {α : Type} {r : Res α} {G : α → St → Prop} {t : Tag G} : V r G t = W r G := propext (Iff.intro (fun h => match h with | .mk h => h) V.mk)
theorem Vc_eq {r : CRes} {G : O → List O → Prop} {t : Tag G} : Vc r G t = Wc r G := propext (Iff.intro (fun h => match h with | .mk h => h) Vc.mk)
def X {α : Type} (o : Option α) (K : α → Prop) (_ : Tag K) : Prop := ∃ a, o = some a ∧ K a
def lk {α : Type} : List α → Nat → (G : α → Prop) → Tag G → Prop
  | [], _, _, _ => False
  | a :: _, 0, G, _ => G a
  | _ :: l, n + 1, G, _ => lk l n G ⟨⟩
def sto {α : Type} : List α → Nat → α → (G : List α → Prop) → Tag G → Prop
  | [], _, _, _, _ => False
  | _ :: l, 0, o, G, _ => G (o :: l)
  | a :: l, n + 1, o, G, _ => sto l n o (fun l' => G (a :: l')) ⟨⟩
def Br (c : Bool) (A B : Prop) (_ : Tag A) (_ : Tag B) : Prop := if c = true then A else B
theorem br_true {A B : Prop} {t : Tag A} {u : Tag B} : Br true A B t u = A := rfl
theorem br_false {A B : Prop} {t : Tag A} {u : Tag B} : Br false A B t u = B := rfl
theorem br {c : Bool} {A B : Prop} (h : c = true → A) (k : c = false → B) : Br c A B ⟨⟩ ⟨⟩ := by
  cases c with
  | true => exact h rfl
  | false => exact k rfl
theorem lk_0 {α : Type} {a : α} {l : List α} {G : α → Prop} {t : Tag G} : lk (a :: l) 0 G t = G a := rfl
theorem lk_s {α : Type} {a : α} {l : List α} {n : Nat} {G : α → Prop} {t : Tag G} : lk (a :: l) (n + 1) G t = lk l n G ⟨⟩ := rfl
theorem sto_0 {α : Type} {a o : α} {l : List α} {G : List α → Prop} {t : Tag G} : sto (a :: l) 0 o G t = G (o :: l) := rfl
theorem sto_s {α : Type} {a o : α} {l : List α} {n : Nat} {G : List α → Prop} {t : Tag G} : sto (a :: l) (n + 1) o G t = sto l n o (fun l' => G (a :: l')) ⟨⟩ := rfl
theorem lk_end {α : Type} {a : α} {G : α → Prop} {t : Tag G} : ∀ {l : List α}, lk (l ++ [a]) l.length G t = G a
  | [] => rfl
  | b :: l => lk_end (l := l)
theorem sto_end {α : Type} {a o : α} : ∀ {l : List α} {G : List α → Prop} {t : Tag G}, sto (l ++ [a]) l.length o G t = G (l ++ [o])
  | [], _, _ => rfl
  | b :: l, G, t => sto_end (l := l) (G := fun l' => G (b :: l'))
theorem lk_mid {α : Type} {a : α} {G : α → Prop} {t : Tag G} : ∀ {l b : List α}, lk (l ++ a :: b) l.length G t = G a
  | [], _ => rfl
  | _ :: l, b => lk_mid (l := l) (b := b)
theorem sto_mid {α : Type} {a o : α} : ∀ {l b : List α} {G : List α → Prop} {t : Tag G}, sto (l ++ a :: b) l.length o G t = G (l ++ o :: b)
  | [], _, _, _ => rfl
  | c :: l, b, G, t => sto_mid (l := l) (b := b) (G := fun l' => G (c :: l'))
theorem lk_get {α : Type} {G : α → Prop} {t : Tag G} : ∀ {l : List α} {n : Nat}, lk l n G t = match l[n]? with | some a => G a | none => False
  | [], n => by simp [lk]
  | a :: l, 0 => rfl
  | a :: l, n + 1 => by rw [lk, lk_get]; simp
theorem sto_get {α : Type} {o : α} : ∀ {l : List α} {n : Nat} {G : List α → Prop} {t : Tag G}, sto l n o G t = (n < l.length ∧ G (l.set n o))
  | [], n, _, _ => by simp [sto]
  | a :: l, 0, _, _ => by simp [sto]
  | a :: l, n + 1, _, _ => by rw [sto, sto_get]; simp
section
variable {cl : Cl} {fl : Nat → List Bool} {s : St} {e h : List O} {wf : Nat}
/-- a name read -/
def vv (i : Nat) (e h : List O) (G : Hd → St → Prop) : O → Prop
  | .d x => G (.tmp (.d x)) ⟨e, h⟩
  | .hole => False
  | _ => G (.slot i) ⟨e, h⟩
section
variable {i : Nat} {G : Hd → St → Prop}
theorem vv_d {x : D} : vv i e h G (.d x) = G (.tmp (.d x)) ⟨e, h⟩ := rfl
theorem vv_l {x : List D} : vv i e h G (.lst x) = G (.slot i) ⟨e, h⟩ := rfl
theorem vv_k {x : List (L2.Key × D)} : vv i e h G (.dct x) = G (.slot i) ⟨e, h⟩ := rfl
end
theorem v_bind {α β : Type} {m : M α} {f : α → M β} {G : β → St → Prop} {t : Tag G} : V (m.bind f s) G t = V (m s) (fun a s' => V (f a s') G ⟨⟩) ⟨⟩ := by simp only [V_eq, Vc_eq, X, Br]; exact w_bind
theorem v_ret {α : Type} {a : α} {G : α → St → Prop} {t : Tag G} : V (ret a s) G t = G a s := by simp only [V_eq, Vc_eq, X, Br]; rfl
section
variable {G : Hd → St → Prop} {t : Tag G}
theorem v_var {i : Nat} : V (hd cl fl (.var i) ⟨e, h⟩) G t = lk e i (vv i e h G) ⟨⟩ := by
  simp only [V_eq]
  rw [p_var, lk_get]
  cases hh : e[i]? with
  | none => simp [hh]
  | some o => cases o <;> simp [hh, vv]
theorem v_con {x : D} : V (hd cl fl (.con x) s) G t = G (.tmp (.d x)) s := by simp only [V_eq, Vc_eq, X, Br]; exact p_con
theorem v_bin {op : Bop} {a b : E} : V (hd cl fl (.bin op a b) s) G t = V (hd cl fl a s) (fun x s => V (hd cl fl b s) (fun y s => V (look x s) (fun p s => V (look y s) (fun q s => X (binop op p q) (fun r => G (.tmp r) s) ⟨⟩) ⟨⟩) ⟨⟩) ⟨⟩) ⟨⟩ := by simp only [V_eq, Vc_eq, X, Br]; exact p_bin
theorem v_neg {a : E} : V (hd cl fl (.neg a) s) G t = V (hd cl fl a s) (fun x s => V (intOf x s) (fun i s => G (.tmp (.d (.int (-i)))) s) ⟨⟩) ⟨⟩ := by simp only [V_eq, Vc_eq, X, Br]; exact p_neg
theorem v_cmp {op : Cop} {a b : E} : V (hd cl fl (.cmp op a b) s) G t = V (hd cl fl a s) (fun x s => V (hd cl fl b s) (fun y s => V (look x s) (fun p s => V (look y s) (fun q s => X (cmpop op p q) (fun r => G (.tmp (.d (.bl r))) s) ⟨⟩) ⟨⟩) ⟨⟩) ⟨⟩) ⟨⟩ := by simp only [V_eq, Vc_eq, X, Br]; exact p_cmp
theorem v_chn {o1 o2 : Cop} {a b c : E} : V (hd cl fl (.chn o1 o2 a b c) s) G t = V (hd cl fl a s) (fun x s => V (hd cl fl b s) (fun y s => V (look x s) (fun p s => V (look y s) (fun q s => X (cmpop o1 p q) (fun r =>
    Br r (V (hd cl fl c s) (fun z s => V (look y s) (fun q s => V (look z s) (fun u s => X (cmpop o2 q u) (fun r => G (.tmp (.d (.bl r))) s) ⟨⟩) ⟨⟩) ⟨⟩) ⟨⟩) (G (.tmp (.d (.bl false))) s) ⟨⟩ ⟨⟩) ⟨⟩) ⟨⟩) ⟨⟩) ⟨⟩) ⟨⟩ := by simp only [V_eq, Vc_eq, X, Br]; exact p_chn
theorem v_oneE {a : E} : V (hd cl fl (.one a) s) G t = V (hd cl fl a s) G ⟨⟩ := by simp only [V_eq, Vc_eq, X, Br]; exact p_oneE
theorem v_and {a b : E} : V (hd cl fl (.and a b) s) G t = V (hd cl fl a s) (fun x s => V (truth x s) (fun c s => Br c (V (hd cl fl b s) G ⟨⟩) (G (.tmp (.d (.bl false))) s) ⟨⟩ ⟨⟩) ⟨⟩) ⟨⟩ := by simp only [V_eq, Vc_eq, X, Br]; exact p_and
theorem v_or {a b : E} : V (hd cl fl (.or a b) s) G t = V (hd cl fl a s) (fun x s => V (truth x s) (fun c s => Br c (G (.tmp (.d (.bl true))) s) (V (hd cl fl b s) G ⟨⟩) ⟨⟩ ⟨⟩) ⟨⟩) ⟨⟩ := by simp only [V_eq, Vc_eq, X, Br]; exact p_or
theorem v_not {a : E} : V (hd cl fl (.not a) s) G t = V (hd cl fl a s) (fun x s => V (truth x s) (fun c s => G (.tmp (.d (.bl !c))) s) ⟨⟩) ⟨⟩ := by simp only [V_eq, Vc_eq, X, Br]; exact p_not
theorem v_ite {c a b : E} : V (hd cl fl (.ite c a b) s) G t = V (hd cl fl c s) (fun x s => V (truth x s) (fun k s => Br k (V (hd cl fl a s) G ⟨⟩) (V (hd cl fl b s) G ⟨⟩) ⟨⟩ ⟨⟩) ⟨⟩) ⟨⟩ := by simp only [V_eq, Vc_eq, X, Br]; exact p_ite
theorem v_tup {es : E} : V (hd cl fl (.tup es) s) G t = V (evs cl fl es s) (fun xs s => line xs.length = true ∧ G (.tmp (.d (.tup xs))) s) ⟨⟩ := by simp only [V_eq, Vc_eq, X, Br]; exact p_tup
theorem v_lst {es : E} : V (hd cl fl (.lst es) s) G t = V (evs cl fl es s) (fun xs s => line xs.length = true ∧ G (.tmp (.lst xs)) s) ⟨⟩ := by simp only [V_eq, Vc_eq, X, Br]; exact p_lst
theorem v_idx {a b : E} : V (hd cl fl (.idx a b) s) G t = V (hd cl fl a s) (fun x s => V (hd cl fl b s) (fun y s => V (look x s) (fun p s => V (look y s) (fun q s => X (getIdx p q) (fun r => G (.tmp (.d r)) s) ⟨⟩) ⟨⟩) ⟨⟩) ⟨⟩) ⟨⟩ := by simp only [V_eq, Vc_eq, X, Br]; exact p_idx
theorem v_dsp : V (hd cl fl (.dsp .nil) s) G t = G (.tmp (.dct [])) s := by simp only [V_eq]; rw [hd]; rfl
def repV (xs : List D) : Option Str := match pysD xs with
  | some ps => if (PyData.list ps).showable && line (PyData.list ps).shown.length && decide ((PyData.list ps).depth ≤ 64) && line xs.length then some (PyData.list ps).shown else none
  | none => none
theorem v_repL {es : E} : V (hd cl fl (.repL es) s) G t = V (evs cl fl es s) (fun xs s => X (repV xs) (fun z => G (.tmp (.d (.str z))) s) ⟨⟩) ⟨⟩ := by
  simp only [V_eq, X]
  rw [hd, w_bind]
  congr 1; funext xs s
  unfold repV
  cases pysD xs with
  | none => exact propext ⟨fun q => q.elim, fun ⟨a, q, _⟩ => by cases q⟩
  | some ps =>
    dsimp only
    split
    · exact propext ⟨fun q => ⟨_, rfl, q⟩, fun ⟨a, q, k⟩ => by cases q; exact k⟩
    · exact propext ⟨fun q => q.elim, fun ⟨a, q, _⟩ => by cases q⟩
theorem v_rev {a : E} : V (hd cl fl (.rev a) s) G t = V (hd cl fl a s) (fun x s => V (look x s) (fun p s => X (getRev p) (fun r => G (.tmp r) s) ⟨⟩) ⟨⟩) ⟨⟩ := by simp only [V_eq, Vc_eq, X, Br]; exact p_rev
theorem v_stp {a : E} {k : Nat} : V (hd cl fl (.stp a k) s) G t = V (hd cl fl a s) (fun x s => V (look x s) (fun p s => X (getStp k p) (fun r => G (.tmp r) s) ⟨⟩) ⟨⟩) ⟨⟩ := by simp only [V_eq, Vc_eq, X, Br]; exact p_stp
theorem v_rngl {a : E} : V (hd cl fl (.rngl a) s) G t = V (hd cl fl a s) (fun x s => V (intOf x s) (fun i s => (-(2 ^ 62) ≤ i ∧ i ≤ 2 ^ 24) ∧ G (.tmp (.lst (rngD 0 i.toNat))) s) ⟨⟩) ⟨⟩ := by simp only [V_eq, Vc_eq, X, Br]; exact p_rngl
theorem v_rngt {a : E} : V (hd cl fl (.rngt a) s) G t = V (hd cl fl a s) (fun x s => V (intOf x s) (fun i s => (-(2 ^ 62) ≤ i ∧ i ≤ 2 ^ 24) ∧ G (.tmp (.d (.tup (rngD 0 i.toNat)))) s) ⟨⟩) ⟨⟩ := by simp only [V_eq, Vc_eq, X, Br]; exact p_rngt
theorem v_sumS {a : E} : V (hd cl fl (.sumS a) s) G t = V (hd cl fl a s) (fun x s => V (look x s) (fun p s => X (sumS p) (fun r => G (.tmp r) s) ⟨⟩) ⟨⟩) ⟨⟩ := by simp only [V_eq, Vc_eq, X, Br]; exact p_sumS
theorem v_fst {a b : E} {z : Str} : V (hd cl fl (.fst a z b) s) G t = V (hd cl fl a s) (fun x s => V (look x s) (fun p s => X (fmtV p) (fun s1 => line (s1 ++ z).length = true ∧ V (hd cl fl b s) (fun y s => V (look y s) (fun q s => X (fmtV q) (fun s2 => line (s1 ++ z ++ s2).length = true ∧ G (.tmp (.d (.str (s1 ++ z ++ s2)))) s) ⟨⟩) ⟨⟩) ⟨⟩) ⟨⟩) ⟨⟩) ⟨⟩ := by simp only [V_eq, Vc_eq, X, Br]; exact p_fst
theorem v_sl {a lo hi : E} : V (hd cl fl (.sl a lo hi) s) G t = V (hd cl fl a s) (fun x s => V (part cl fl lo s) (fun l s => V (part cl fl hi s) (fun u s => V (look x s) (fun p s => X (getCut p l u) (fun r => G (.tmp r) s) ⟨⟩) ⟨⟩) ⟨⟩) ⟨⟩) ⟨⟩ := by simp only [V_eq, Vc_eq, X, Br]; exact p_sl
theorem v_blt {b : Bi} {es : E} : V (hd cl fl (.blt b es) s) G t = V (hds cl fl es s) (fun xs s => V (looks xs s) (fun os s => X (bltop b os) (fun r => G (.tmp r) s) ⟨⟩) ⟨⟩) ⟨⟩ := by simp only [V_eq, Vc_eq, X, Br]; exact p_blt
theorem v_call {f : Nat} {es : E} : V (hd cl fl (.call f es) s) G t = V (avs cl fl (fl f) es s) (fun os s => Vc (cl.fn f os s.h) (fun o h' => G (.tmp o) ⟨s.e, h'⟩) ⟨⟩) ⟨⟩ := by simp only [V_eq, Vc_eq, X, Br]; exact w_call
theorem v_app {o e : E} : V (hd cl fl (.app o e) s) G t = V (hd cl fl o s) (fun x s => V (look x s) (fun p s => recv .pop p = true ∧ V (hd cl fl e s) (fun y s => V (take y s) (fun q s => V (stow (fresh e) q s) (fun v s => V (modL x (fApp v) s) (fun r s => G (.tmp (.d r)) s) ⟨⟩) ⟨⟩) ⟨⟩) ⟨⟩) ⟨⟩) ⟨⟩ := by simp only [V_eq, Vc_eq, X, Br]; exact p_app
def mthK (m : Mi) (x : Hd) (G : Hd → St → Prop) (vs : List O) (s : St) : Prop := match mutop m with
    | some f => V (modL x (fun os => f os vs) s) (fun r s => G (.tmp (.d r)) s) ⟨⟩
    | none => V (look x s) (fun q s => X (tellop m q vs) (fun r => G (.tmp r) s) ⟨⟩) ⟨⟩
theorem v_mth {m : Mi} {o es : E} : V (hd cl fl (.mth m o es) s) G t = V (hd cl fl o s) (fun x s => V (look x s) (fun p s => recv m p = true ∧ V (hds cl fl es s) (fun xs s => V (looks xs s) (mthK m x G) ⟨⟩) ⟨⟩) ⟨⟩) ⟨⟩ := by
  simp only [V_eq]
  rw [p_mth]
  congr 1
  funext x s
  congr 1
  funext p s
  congr 1
  congr 1
  funext xs s
  congr 1
  funext vs s
  unfold mthK
  cases mutop m <;> simp only [V_eq, X]
theorem mthK_pop {x : Hd} {vs : List O} : mthK .pop x G vs s = V (modL x (fun os => mPop os vs) s) (fun r s => G (.tmp (.d r)) s) ⟨⟩ := rfl
theorem mthK_popAt {x : Hd} {vs : List O} : mthK .popAt x G vs s = V (modL x (fun os => mPopAt os vs) s) (fun r s => G (.tmp (.d r)) s) ⟨⟩ := rfl
theorem mthK_rem {x : Hd} {vs : List O} : mthK .remove x G vs s = V (modL x (fun os => mRemove os vs) s) (fun r s => G (.tmp (.d r)) s) ⟨⟩ := rfl
theorem mthK_ext {x : Hd} {vs : List O} : mthK .extend x G vs s = V (modL x (fun os => mExtend os vs) s) (fun r s => G (.tmp (.d r)) s) ⟨⟩ := rfl
theorem mthK_get {x : Hd} {vs : List O} : mthK .get x G vs s = V (look x s) (fun q s => X (mGet q vs) (fun r => G (.tmp r) s) ⟨⟩) ⟨⟩ := rfl
theorem mthK_join {x : Hd} {vs : List O} : mthK .join x G vs s = V (look x s) (fun q s => X (mJoin q vs) (fun r => G (.tmp r) s) ⟨⟩) ⟨⟩ := rfl
theorem v_fld {o : E} {f : Str} : V (hd cl fl (.fld o f) s) G t = V (hd cl fl o s) (fun x s => V (fldOf x f s) (fun v s => G (.tmp (.d v)) s) ⟨⟩) ⟨⟩ := by simp only [V_eq, Vc_eq, X, Br]; exact p_fld
theorem v_comp {elt tg it cond : E} {own : List Nat} : V (hd cl fl (.comp elt tg it cond own) s) G t = V (its cl fl it s) (fun xs s1 => V (compL (turn cl fl elt tg cond own) xs [] s1) (fun acc s => G (.tmp (.lst acc)) ⟨backE s1.e (wipeE s.e own) own, s.h⟩) ⟨⟩) ⟨⟩ := by
  simp only [V_eq]
  rw [hd, w_bind]
  congr 1; funext xs s1
  show W (match compL (turn cl fl elt tg cond own) xs [] s1 with
        | .ok os s' => Res.ok (Hd.tmp (.lst os)) { s' with e := backE s1.e (wipeE s'.e own) own }
        | .exc c v s' => .exc c v s'
        | .bad => .bad) G = _
  cases compL (turn cl fl elt tg cond own) xs [] s1 <;> rfl
end
/-! handles -/
section
variable {G : O → St → Prop} {t : Tag G}
theorem v_lookT {o : O} : V (look (.tmp o) s) G t = V (hdOf o s) G ⟨⟩ := by simp only [V_eq, Vc_eq, X, Br]; rfl
theorem v_lookS {i : Nat} : V (look (.slot i) ⟨e, h⟩) G t = lk e i (fun o => V (hdOf o ⟨e, h⟩) G ⟨⟩) ⟨⟩ := by
  simp only [V_eq]
  rw [p_lookS, lk_get]
  dsimp only
  cases hh : e[i]? <;> simp [hh, V_eq]
theorem v_h_non : V (hdOf (.d .non) s) G t = G (.d .non) s := by simp only [V_eq, Vc_eq, X, Br]; rfl
theorem v_h_bl {b : Bool} : V (hdOf (.d (.bl b)) s) G t = G (.d (.bl b)) s := by simp only [V_eq, Vc_eq, X, Br]; rfl
theorem v_h_int {b : Int} : V (hdOf (.d (.int b)) s) G t = G (.d (.int b)) s := by simp only [V_eq, Vc_eq, X, Br]; rfl
theorem v_h_str {b : Str} : V (hdOf (.d (.str b)) s) G t = G (.d (.str b)) s := by simp only [V_eq, Vc_eq, X, Br]; rfl
theorem v_h_ty {b : String} : V (hdOf (.d (.ty b)) s) G t = G (.d (.ty b)) s := by simp only [V_eq, Vc_eq, X, Br]; rfl
theorem v_h_tup {b : List D} : V (hdOf (.d (.tup b)) s) G t = G (.d (.tup b)) s := by simp only [V_eq, Vc_eq, X, Br]; rfl
theorem v_h_dl {b : List D} : V (hdOf (.d (.lst b)) s) G t = G (.d (.lst b)) s := by simp only [V_eq, Vc_eq, X, Br]; rfl
theorem v_h_dk {b : List (L2.Key × D)} : V (hdOf (.d (.dct b)) s) G t = G (.d (.dct b)) s := by simp only [V_eq, Vc_eq, X, Br]; rfl
theorem v_h_scr {b : List Int} : V (hdOf (.d (.scr b)) s) G t = G (.d (.scr b)) s := by simp only [V_eq, Vc_eq, X, Br]; rfl
theorem v_h_lst {b : List D} : V (hdOf (.lst b) s) G t = G (.lst b) s := by simp only [V_eq, Vc_eq, X, Br]; rfl
theorem v_h_dct {b : List (L2.Key × D)} : V (hdOf (.dct b) s) G t = G (.dct b) s := by simp only [V_eq, Vc_eq, X, Br]; rfl
def nref : D → Bool | .ref _ => false | _ => true
theorem v_h_nr {x : D} (hx : nref x = true) : V (hdOf (.d x) s) G t = G (.d x) s := by cases x <;> first | (rw [V_eq]; rfl) | cases hx
def nh (P : O → Prop) : O → Prop | .hole => False | o => P o
theorem nh_l {P : O → Prop} {x : List D} : nh P (.lst x) = P (.lst x) := rfl
theorem nh_k {P : O → Prop} {x : List (L2.Key × D)} : nh P (.dct x) = P (.dct x) := rfl
theorem nh_i {P : O → Prop} {c : Nat} {x : List (Str × D)} : nh P (.ins c x) = P (.ins c x) := rfl
theorem nh_d {P : O → Prop} {x : D} : nh P (.d x) = P (.d x) := rfl
theorem v_h_ref {n : Nat} : V (hdOf (.d (.ref n)) ⟨e, h⟩) G t = lk h n (nh fun o => G o ⟨e, h⟩) ⟨⟩ := by
  simp only [V_eq]
  rw [p_h_ref, lk_get]
  cases hh : h[n]? with
  | none => simp [hh]
  | some o => cases o <;> simp [hh, nh]
theorem v_takeT {o : O} : V (take (.tmp o) s) G t = G o s := by simp only [V_eq, Vc_eq, X, Br]; rfl
def tk (i : Nat) (e h : List O) (G : O → St → Prop) (o : O) : Prop := X (frz o) (fun x => sto e i (.d x) (fun e' => G (.d x) ⟨e', h⟩) ⟨⟩) ⟨⟩
theorem v_takeS {i : Nat} : V (take (.slot i) ⟨e, h⟩) G t = lk e i (tk i e h G) ⟨⟩ := by
  simp only [V_eq]
  rw [p_takeS, lk_get]
  dsimp only
  cases hh : e[i]? with
  | none => simp [hh]
  | some o =>
    have hi : i < e.length := (List.getElem?_eq_some_iff.mp hh).1
    cases o <;> simp [hh, frz, tk, X, sto_get, hi]
theorem tk_l {i : Nat} {x : List D} : tk i e h G (.lst x) = sto e i (.d (.lst x)) (fun e' => G (.d (.lst x)) ⟨e', h⟩) ⟨⟩ := by simp [tk, X, frz]
theorem tk_k {i : Nat} {x : List (L2.Key × D)} : tk i e h G (.dct x) = sto e i (.d (.dct x)) (fun e' => G (.d (.dct x)) ⟨e', h⟩) ⟨⟩ := by simp [tk, X, frz]
theorem v_moveT {o : O} : V (moveM (.tmp o) s) G t = G o s := by simp only [V_eq, Vc_eq, X, Br]; rfl
def mv (i : Nat) (e h : List O) (G : O → St → Prop) : O → Prop
  | .hole => False
  | o => sto e i .hole (fun e' => G o ⟨e', h⟩) ⟨⟩
theorem mv_l {i : Nat} {x : List D} : mv i e h G (.lst x) = sto e i .hole (fun e' => G (.lst x) ⟨e', h⟩) ⟨⟩ := rfl
theorem mv_k {i : Nat} {x : List (L2.Key × D)} : mv i e h G (.dct x) = sto e i .hole (fun e' => G (.dct x) ⟨e', h⟩) ⟨⟩ := rfl
theorem v_moveS {i : Nat} : V (moveM (.slot i) ⟨e, h⟩) G t = lk e i (mv i e h G) ⟨⟩ := by
  simp only [V_eq]
  rw [p_moveS, lk_get]
  dsimp only
  cases hh : e[i]? with
  | none => simp [hh]
  | some o =>
    have hi : i < e.length := (List.getElem?_eq_some_iff.mp hh).1
    cases o <;> simp [hh, mv, sto_get, hi]
theorem v_argD {p : Bool} {x : D} : V (argM p (.tmp (.d x)) s) G t = G (.d x) s := by simp only [V_eq, Vc_eq, X, Br]; rfl
theorem v_argL {xs : List D} : V (argM false (.tmp (.lst xs)) s) G t = G (.d (.lst xs)) s := by simp only [V_eq, Vc_eq, X, Br]; rfl
theorem v_argLt {xs : List D} : V (argM true (.tmp (.lst xs)) s) G t = G (.d (.ref s.h.length)) ⟨s.e, s.h ++ [.lst xs]⟩ := by simp only [V_eq, Vc_eq, X, Br]; rfl
theorem v_argK {xs : List (L2.Key × D)} : V (argM false (.tmp (.dct xs)) s) G t = G (.d (.dct xs)) s := by simp only [V_eq, Vc_eq, X, Br]; rfl
theorem v_argS {i : Nat} : V (argM false (.slot i) s) G t = V (take (.slot i) s) G ⟨⟩ := by simp only [V_eq, Vc_eq, X, Br]; rfl
def ag (i : Nat) (e h : List O) (G : O → St → Prop) : O → Prop
  | .d x => G (.d x) ⟨e, h⟩
  | .hole => False
  | o => sto e i (.d (.ref h.length)) (fun e' => G (.d (.ref h.length)) ⟨e', h ++ [o]⟩) ⟨⟩
theorem ag_l {i : Nat} {x : List D} : ag i e h G (.lst x) = sto e i (.d (.ref h.length)) (fun e' => G (.d (.ref h.length)) ⟨e', h ++ [.lst x]⟩) ⟨⟩ := rfl
theorem v_argSt {i : Nat} : V (argM true (.slot i) ⟨e, h⟩) G t = lk e i (ag i e h G) ⟨⟩ := by
  simp only [V_eq]
  rw [p_argSt, lk_get]
  dsimp only
  cases hh : e[i]? with
  | none => simp [hh]
  | some o =>
    have hi : i < e.length := (List.getElem?_eq_some_iff.mp hh).1
    cases o <;> simp [hh, ag, sto_get, hi]
end
section
variable {G : D → St → Prop} {t : Tag G}
theorem v_asD {o : O} : V (asD o s) G t = X (frz o) (fun x => G x s) ⟨⟩ := by simp only [V_eq, Vc_eq, X, Br]; exact p_asD
theorem v_stow_d {b : Bool} {x : D} : V (stow b (.d x) s) G t = G x s := by rw [V_eq]; cases b <;> rfl
theorem v_stow_fl {x : List D} : V (stow false (.lst x) s) G t = G (.lst x) s := by simp only [V_eq, Vc_eq, X, Br]; rfl
theorem v_stow_fk {x : List (L2.Key × D)} : V (stow false (.dct x) s) G t = G (.dct x) s := by simp only [V_eq, Vc_eq, X, Br]; rfl
theorem v_stow_nil : V (stow true (.lst []) s) G t = G (.ref s.h.length) ⟨s.e, s.h ++ [.lst []]⟩ := by simp only [V_eq, Vc_eq, X, Br]; rfl
def md (f : List D → Option (List D × D)) (K : List D → D → Prop) : O → Prop
  | .lst xs => X (f xs) (fun p => K p.1 p.2) ⟨⟩
  | _ => False
theorem md_l {f : List D → Option (List D × D)} {K : List D → D → Prop} {xs : List D} : md f K (.lst xs) = X (f xs) (fun p => K p.1 p.2) ⟨⟩ := rfl
theorem v_modS {k : Nat} {f : List D → Option (List D × D)} : V (modL (.slot k) f ⟨e, h⟩) G t = lk e k (md f fun xs r => sto e k (.lst xs) (fun e' => G r ⟨e', h⟩) ⟨⟩) ⟨⟩ := by
  simp only [V_eq]
  rw [p_modS, lk_get]
  dsimp only
  cases hh : e[k]? with
  | none => simp [hh]
  | some o =>
    have hi : k < e.length := (List.getElem?_eq_some_iff.mp hh).1
    cases o <;> simp [hh, md, X, sto_get, hi]
theorem v_modR {k : Nat} {f : List D → Option (List D × D)} : V (modL (.tmp (.d (.ref k))) f ⟨e, h⟩) G t = lk h k (md f fun xs r => sto h k (.lst xs) (fun h' => G r ⟨e, h'⟩) ⟨⟩) ⟨⟩ := by
  simp only [V_eq]
  rw [p_modR, lk_get]
  dsimp only
  cases hh : h[k]? with
  | none => simp [hh]
  | some o =>
    have hi : k < h.length := (List.getElem?_eq_some_iff.mp hh).1
    cases o <;> simp [hh, md, X, sto_get, hi]
end
theorem v_int {i : Int} {G : Int → St → Prop} {t : Tag G} : V (intOf (.tmp (.d (.int i))) s) G t = G i s := by simp only [V_eq, Vc_eq, X, Br]; rfl
theorem v_truth {b : Bool} {G : Bool → St → Prop} {t : Tag G} : V (truth (.tmp (.d (.bl b))) s) G t = G b s := by simp only [V_eq, Vc_eq, X, Br]; rfl
theorem v_looks0 {G : List O → St → Prop} {t : Tag G} : V (looks [] s) G t = G [] s := by simp only [V_eq, Vc_eq, X, Br]; rfl
theorem v_looks1 {x : Hd} {xs : List Hd} {G : List O → St → Prop} {t : Tag G} : V (looks (x :: xs) s) G t = V (look x s) (fun o s => V (looks xs s) (fun os s => G (o :: os) s) ⟨⟩) ⟨⟩ := by simp only [V_eq, Vc_eq, X, Br]; exact p_looks1
theorem v_evs0 {G : List D → St → Prop} {t : Tag G} : V (evs cl fl .nil s) G t = G [] s := by simp only [V_eq, Vc_eq, X, Br]; exact p_evs0
theorem v_evs1 {e es : E} {G : List D → St → Prop} {t : Tag G} : V (evs cl fl (.cons e es) s) G t = V (hd cl fl e s) (fun x s => V (take x s) (fun o s => V (stow (fresh e) o s) (fun v s => V (evs cl fl es s) (fun os s => G (v :: os) s) ⟨⟩) ⟨⟩) ⟨⟩) ⟨⟩ := by simp only [V_eq, Vc_eq, X, Br]; exact p_evs1
theorem v_hds0 {G : List Hd → St → Prop} {t : Tag G} : V (hds cl fl .nil s) G t = G [] s := by simp only [V_eq, Vc_eq, X, Br]; exact p_hds0
theorem v_hds1 {e es : E} {G : List Hd → St → Prop} {t : Tag G} : V (hds cl fl (.cons e es) s) G t = V (hd cl fl e s) (fun x s => V (hds cl fl es s) (fun xs s => G (x :: xs) s) ⟨⟩) ⟨⟩ := by simp only [V_eq, Vc_eq, X, Br]; exact p_hds1
theorem v_avs0 {ps : List Bool} {G : List O → St → Prop} {t : Tag G} : V (avs cl fl ps .nil s) G t = G [] s := by simp only [V_eq, Vc_eq, X, Br]; exact p_avs0
theorem v_avs1 {ps : List Bool} {e es : E} {G : List O → St → Prop} {t : Tag G} : V (avs cl fl ps (.cons e es) s) G t = V (hd cl fl e s) (fun x s => V (argM (ps.headD false) x s) (fun o s => V (avs cl fl ps.tail es s) (fun os s => G (o :: os) s) ⟨⟩) ⟨⟩) ⟨⟩ := by simp only [V_eq, Vc_eq, X, Br]; exact p_avs1
theorem v_part0 {G : Option Int → St → Prop} {t : Tag G} : V (part cl fl .nil s) G t = G none s := by simp only [V_eq, Vc_eq, X, Br]; exact p_part0
theorem v_part1 {e : E} {G : Option Int → St → Prop} {t : Tag G} : V (part cl fl (.one e) s) G t = V (hd cl fl e s) (fun x s => V (intOf x s) (fun i s => G (some i) s) ⟨⟩) ⟨⟩ := by simp only [V_eq, Vc_eq, X, Br]; exact p_part1
section
variable {G : List D → St → Prop} {t : Tag G}
def zipK (G : List D → St → Prop) : List O → St → Prop
  | [.d (.lst xs), .d (.lst ys)], s => G (zipD xs ys) s
  | _, _ => False
theorem zipK_2 {G : List D → St → Prop} {xs ys : List D} : zipK G [.d (.lst xs), .d (.lst ys)] s = G (zipD xs ys) s := rfl
theorem v_zipE {es : E} {G : List D → St → Prop} {t : Tag G} : V (its cl fl (.zipE es) s) G t = V (avs cl fl [] es s) (zipK G) ⟨⟩ := by
  simp only [V_eq]
  rw [its, w_bind]
  congr 1
  funext os s
  unfold zipK
  split
  · rfl
  · rename_i h
    split
    · exact absurd rfl (h _ _)
    · rfl
theorem v_seq {a : E} : V (its cl fl (.seq a) s) G t = V (hd cl fl a s) (fun x s => V (take x s) (fun o s => X (frz o) (fun y => X (itsOf (.d y)) (fun xs => G xs s) ⟨⟩) ⟨⟩) ⟨⟩) ⟨⟩ := by simp only [V_eq, Vc_eq, X, Br]; exact p_seq
theorem v_rng1 {a : E} : V (its cl fl (.rng1 a) s) G t = V (hd cl fl a s) (fun x s => V (intOf x s) (fun i s => rngOk i = true ∧ G (rngD 0 i.toNat) s) ⟨⟩) ⟨⟩ := by simp only [V_eq, Vc_eq, X, Br]; exact p_rng1
theorem v_rng2 {a b : E} : V (its cl fl (.rng2 a b) s) G t = V (hd cl fl a s) (fun x s => V (hd cl fl b s) (fun y s => V (intOf x s) (fun i s => V (intOf y s) (fun j s => (rngOk i && rngOk j) = true ∧ G (rngD i (j - i).toNat) s) ⟨⟩) ⟨⟩) ⟨⟩) ⟨⟩ := by simp only [V_eq, Vc_eq, X, Br]; exact p_rng2
def notTup : D → Bool | .tup _ => false | _ => true
theorem v_enm {a : E} : V (its cl fl (.enm a) s) G t = V (hd cl fl a s) (fun x s => V (take x s) (fun o s => X (frz o) (fun y => X (itsOf (.d y)) (fun xs => notTup y = true ∧ G (numbered xs) s) ⟨⟩) ⟨⟩) ⟨⟩) ⟨⟩ := by
  simp only [V_eq, X]
  rw [its]
  simp only [w_bind, p_asD, p_opt]
  congr 1; funext x s
  congr 1; funext o s
  congr 1; funext y
  congr 1
  congr 1; funext xs
  congr 1
  cases y <;> simp [notTup, w_ret, w_die]
end
section
variable {G : Unit → St → Prop} {t : Tag G}
theorem v_aVar {i : Nat} {o : O} : V (asg cl fl (.var i) o ⟨e, h⟩) G t = sto e i o (fun e' => G () ⟨e', h⟩) ⟨⟩ := by
  simp only [V_eq]
  rw [p_aVar, sto_get]
theorem v_aTup {es : E} {o : O} : V (asg cl fl (.tup es) o s) G t = X (unpk o) (fun xs => V (asgs cl fl es xs s) G ⟨⟩) ⟨⟩ := by simp only [V_eq, Vc_eq, X, Br]; exact p_aTup
theorem v_aIdx {a b : E} {o : O} : V (asg cl fl (.idx a b) o s) G t = V (hd cl fl a s) (fun x s => V (hd cl fl b s) (fun y s => V (setI x y o s) G ⟨⟩) ⟨⟩) ⟨⟩ := by simp only [V_eq, Vc_eq, X, Br]; exact p_aIdx
theorem v_setI {x : Hd} {i : Int} {o : O} : V (setI x (.tmp (.d (.int i))) o s) G t = X (frz o) (fun v => V (modL x (fSet i v) s) (fun _ s => G () s) ⟨⟩) ⟨⟩ := by simp only [V_eq, Vc_eq, X, Br]; exact p_setI
theorem v_setS {x : Hd} {z : Str} {o : O} : V (setI x (.tmp (.d (.str z))) o s) G t = X (frz o) (fun v => V (modK x (fPut (.inr z) v) s) G ⟨⟩) ⟨⟩ := by simp only [V_eq, Vc_eq, X, Br]; exact p_setS
def mdk (f : List (L2.Key × D) → Option (List (L2.Key × D))) (K : List (L2.Key × D) → Prop) : O → Prop
  | .dct ks => X (f ks) (fun ys => K ys) ⟨⟩
  | _ => False
theorem mdk_k {f : List (L2.Key × D) → Option (List (L2.Key × D))} {K : List (L2.Key × D) → Prop} {ks : List (L2.Key × D)} : mdk f K (.dct ks) = X (f ks) (fun ys => K ys) ⟨⟩ := rfl
theorem v_modKS {k : Nat} {f : List (L2.Key × D) → Option (List (L2.Key × D))} : V (modK (.slot k) f ⟨e, h⟩) G t = lk e k (mdk f fun ks => sto e k (.dct ks) (fun e' => G () ⟨e', h⟩) ⟨⟩) ⟨⟩ := by
  simp only [V_eq]
  unfold modK
  rw [lk_get]
  dsimp only
  cases hh : e[k]? with
  | none => rfl
  | some o =>
    have hi : k < e.length := (List.getElem?_eq_some_iff.mp hh).1
    cases o <;> first | rfl | skip
    rename_i ks
    simp only [mdk, X, sto_get, hi, true_and]
    cases f ks with
    | none => exact propext ⟨fun q => q.elim, fun ⟨a, q, _⟩ => by cases q⟩
    | some ys => exact propext ⟨fun q => ⟨ys, rfl, q⟩, fun ⟨a, q, k⟩ => by cases q; exact k⟩
theorem v_modKR {k : Nat} {f : List (L2.Key × D) → Option (List (L2.Key × D))} : V (modK (.tmp (.d (.ref k))) f ⟨e, h⟩) G t = lk h k (mdk f fun ks => sto h k (.dct ks) (fun h' => G () ⟨e, h'⟩) ⟨⟩) ⟨⟩ := by
  simp only [V_eq]
  unfold modK
  rw [lk_get]
  dsimp only
  cases hh : h[k]? with
  | none => rfl
  | some o =>
    have hi : k < h.length := (List.getElem?_eq_some_iff.mp hh).1
    cases o <;> first | rfl | skip
    rename_i ks
    simp only [mdk, X, sto_get, hi, true_and]
    cases f ks with
    | none => exact propext ⟨fun q => q.elim, fun ⟨a, q, _⟩ => by cases q⟩
    | some ys => exact propext ⟨fun q => ⟨ys, rfl, q⟩, fun ⟨a, q, k⟩ => by cases q; exact k⟩
theorem x_fput {k : L2.Key} {v : D} {ks : List (L2.Key × D)} {K : List (L2.Key × D) → Prop} {t : Tag K} : X (fPut k v ks) K t = (ks.length < sizeLine ∧ K (putD ks k v)) := by
  by_cases h : ks.length < sizeLine <;> simp [X, fPut, h]
theorem v_as0 : V (asgs cl fl .nil [] s) G t = G () s := by simp only [V_eq, Vc_eq, X, Br]; exact p_as0
theorem v_as1 {a ts : E} {x : D} {xs : List D} : V (asgs cl fl (.cons a ts) (x :: xs) s) G t = V (asg cl fl a (.d x) s) (fun _ s => V (asgs cl fl ts xs s) G ⟨⟩) ⟨⟩ := by simp only [V_eq, Vc_eq, X, Br]; exact p_as1
end
section
variable {F : Flow → St → Prop} {t : Tag F}
def sqK (cl : Cl) (fl : Nat → List Bool) (wf : Nat) (b : S) (F : Flow → St → Prop) : Flow → St → Prop
  | .next, s => V (ex cl fl wf b s) F ⟨⟩
  | .brk, s => F .brk s
  | .cont, s => F .cont s
  | .ret o, s => F (.ret o) s
theorem sqK_n {b : S} : sqK cl fl wf b F .next s = V (ex cl fl wf b s) F ⟨⟩ := rfl
theorem sqK_b {b : S} : sqK cl fl wf b F .brk s = F .brk s := rfl
theorem sqK_c {b : S} : sqK cl fl wf b F .cont s = F .cont s := rfl
theorem sqK_r {b : S} {o : O} : sqK cl fl wf b F (.ret o) s = F (.ret o) s := rfl
theorem v_nilS : V (ex cl fl wf .nil s) F t = F .next s := by simp only [V_eq, Vc_eq, X, Br]; exact p_nilS
theorem v_sq {a b : S} : V (ex cl fl wf (.sq a b) s) F t = V (ex cl fl wf a s) (sqK cl fl wf b F) ⟨⟩ := by
  simp only [V_eq]
  rw [p_sq]
  congr 1
  funext w s
  cases w <;> simp only [sqK, V_eq]
theorem v_expr {e : E} : V (ex cl fl wf (.expr e) s) F t = V (hd cl fl e s) (fun _ s => F .next s) ⟨⟩ := by simp only [V_eq, Vc_eq, X, Br]; exact p_expr
theorem v_asg {a e : E} : V (ex cl fl wf (.asg a e) s) F t = V (hd cl fl e s) (fun x s => V (take x s) (fun o s => V (asg cl fl a o s) (fun _ s => F .next s) ⟨⟩) ⟨⟩) ⟨⟩ := by simp only [V_eq, Vc_eq, X, Br]; exact p_asg
theorem v_retE {e : E} : V (ex cl fl wf (.ret e) s) F t = V (hd cl fl e s) (fun x s => V (moveM x s) (fun o s => F (.ret o) s) ⟨⟩) ⟨⟩ := by simp only [V_eq, Vc_eq, X, Br]; exact p_ret
theorem v_retN : V (ex cl fl wf .retN s) F t = F (.ret (.d .non)) s := by simp only [V_eq, Vc_eq, X, Br]; exact p_retN
theorem v_iteS {c : E} {a b : S} : V (ex cl fl wf (.ite c a b) s) F t = V (hd cl fl c s) (fun x s => V (truth x s) (fun k s => Br k (V (ex cl fl wf a s) F ⟨⟩) (V (ex cl fl wf b s) F ⟨⟩) ⟨⟩ ⟨⟩) ⟨⟩) ⟨⟩ := by simp only [V_eq, Vc_eq, X, Br]; exact p_iteS
theorem v_forS {tg it : E} {b : S} : V (ex cl fl wf (.for tg it b) s) F t = V (its cl fl it s) (fun xs s => V (forL (fun x => (asg cl fl tg (.d x)).bind fun _ => ex cl fl wf b) xs s) F ⟨⟩) ⟨⟩ := by simp only [V_eq, Vc_eq, X, Br]; exact p_for
theorem v_whileS {c : E} {b : S} : V (ex cl fl wf (.while c b) s) F t = V (whileN ((hd cl fl c).bind truth) (ex cl fl wf b) wf s) F ⟨⟩ := by
  simp only [V_eq]
  rw [ex]
theorem v_pass : V (ex cl fl wf .pass s) F t = F .next s := by simp only [V_eq, Vc_eq, X, Br]; exact p_pass
theorem v_brk : V (ex cl fl wf .brk s) F t = F .brk s := by simp only [V_eq, Vc_eq, X, Br]; exact p_brk
theorem v_cont : V (ex cl fl wf .cont s) F t = F .cont s := by simp only [V_eq, Vc_eq, X, Br]; exact p_contS
theorem v_aug {i : Nat} {op : Bop} {e : E} : V (ex cl fl wf (.aug i op e) s) F t = V (hd cl fl (.var i) s) (fun x s => V (hd cl fl e s) (fun y s => V (intOf x s) (fun a s => V (intOf y s) (fun b s => X (augI op a b) (fun r => V (asg cl fl (.var i) (.d (.int r)) s) (fun _ s => F .next s) ⟨⟩) ⟨⟩) ⟨⟩) ⟨⟩) ⟨⟩) ⟨⟩ := by simp only [V_eq, Vc_eq, X, Br]; exact p_aug
/-- a loop's turn -/
def lpK (nx : St → Prop) (G : Flow → St → Prop) : Flow → St → Prop
  | .next, s => nx s
  | .cont, s => nx s
  | .brk, s => G .next s
  | .ret o, s => G (.ret o) s
theorem lpK_n {nx : St → Prop} : lpK nx F .next s = nx s := rfl
theorem lpK_c {nx : St → Prop} : lpK nx F .cont s = nx s := rfl
theorem lpK_b {nx : St → Prop} : lpK nx F .brk s = F .next s := rfl
theorem lpK_r {nx : St → Prop} {o : O} : lpK nx F (.ret o) s = F (.ret o) s := rfl
/-- two ways meet again -/
def jnK (R : St → Prop) (K : Flow → St → Prop) : Flow → St → Prop
  | .next, s => R s
  | .brk, s => K .brk s
  | .cont, s => K .cont s
  | .ret o, s => K (.ret o) s
theorem jnK_n {R : St → Prop} : jnK R F .next s = R s := rfl
theorem jnK_b {R : St → Prop} : jnK R F .brk s = F .brk s := rfl
theorem jnK_c {R : St → Prop} : jnK R F .cont s = F .cont s := rfl
theorem jnK_r {R : St → Prop} {o : O} : jnK R F (.ret o) s = F (.ret o) s := rfl
theorem v_meet {r : Res Flow} (R : St → Prop) (h : V r (jnK R F) ⟨⟩) (k : ∀ s, R s → F .next s) : V r F ⟨⟩ := by
  rw [V_eq] at h ⊢
  exact W.mono h fun w s q => by cases w <;> first | exact k _ q | exact q
theorem v_for {f : D → M Flow} {xs : List D} (I : Nat → St → Prop) (h0 : I 0 s) (st : ∀ i s (hi : i < xs.length), I i s → V (f xs[i] s) (lpK (I (i + 1)) F) ⟨⟩) (fin : ∀ s, I xs.length s → F .next s) : V (forL f xs s) F ⟨⟩ := by
  rw [V_eq]
  exact w_for I h0 (fun i s hi k => by
    have h := st i s hi k
    rw [V_eq] at h
    exact W.mono h fun w s' k => by cases w <;> exact k) fin
theorem v_asgH {i : Nat} {e : E} : V (ex cl fl wf (.asgH i e) s) F t = V (hd cl fl e s) (fun x s => V (argM true x s) (fun o s => V (asg cl fl (.var i) o s) (fun _ s => F .next s) ⟨⟩) ⟨⟩) ⟨⟩ := by
  simp only [V_eq]
  rw [ex]
  simp only [w_bind, w_ret]
theorem v_forHS {tg it : E} {b : S} : V (ex cl fl wf (.forH tg it b) s) F t = V (hd cl fl it s) (fun x s => V (openH (fun y => (asg cl fl tg (.d y)).bind fun _ => ex cl fl wf b) x s) F ⟨⟩) ⟨⟩ := by
  simp only [V_eq]
  rw [ex]
  simp only [w_bind]
theorem v_openH {f : D → M Flow} {n : Nat} {xs : List D} (h : s.h[n]? = some (.lst xs)) : V (openH f (.tmp (.d (.ref n))) s) F t = V (walkH f n 0 xs.length s) F ⟨⟩ := by
  rw [V_eq, V_eq]
  show W (match s.h[n]? with | some (.lst xs) => walkH f n 0 xs.length s | _ => .bad) F = _
  rw [h]
theorem v_walkH {f : D → M Flow} {n m : Nat} (I : Nat → St → Prop) (h0 : I 0 s) (st : ∀ i s, i < m → I i s → ∃ xs x, s.h[n]? = some (.lst xs) ∧ xs[i]? = some x ∧ V (f x s) (lpK (I (i + 1)) F) ⟨⟩) (fin : ∀ s, I m s → (∃ xs, s.h[n]? = some (.lst xs) ∧ xs.length = m) ∧ F .next s) : V (walkH f n 0 m s) F ⟨⟩ := by
  rw [V_eq]
  have main : ∀ (k i : Nat) (s : St), i + k = m → I i s → W (walkH f n i k s) F := by
    intro k
    induction k with
    | zero =>
      intro i s e h
      obtain ⟨⟨xs, h1, h2⟩, q⟩ := fin s (by rw [← e]; exact h)
      unfold walkH
      rw [h1]
      dsimp only
      rw [if_pos (decide_eq_true (by omega))]
      exact q
    | succ k ih =>
      intro i s e h
      obtain ⟨xs, x, h1, h2, q⟩ := st i s (by omega) h
      unfold walkH
      rw [h1]
      dsimp only
      rw [h2]
      dsimp only
      rw [V_eq] at q
      rw [w_bind]
      refine q.mono fun w s2 q2 => ?_
      cases w with
      | next => exact ih (i + 1) s2 (by omega) q2
      | cont => exact ih (i + 1) s2 (by omega) q2
      | brk => exact q2
      | ret o => exact q2
  exact main m 0 s (by omega) h0
theorem rngD_len {lo : Int} {n : Nat} : (rngD lo n).length = n := by simp [rngD]
theorem rngD_at {lo : Int} {n i : Nat} (hi : i < (rngD lo n).length) : (rngD lo n)[i] = .int (lo + (i : Nat)) := by simp [rngD]
theorem v_forR {f : D → M Flow} {n : Nat} (I : Nat → St → Prop) (h0 : I 0 s) (st : ∀ i s, i < n → I i s → V (f (.int (i : Nat)) s) (lpK (I (i + 1)) F) ⟨⟩) (fin : ∀ s, I n s → F .next s) : V (forL f (rngD 0 n) s) F ⟨⟩ :=
  v_for I h0 (fun i s hi k => by rw [rngD_at, Int.zero_add]; exact st i s (by rwa [rngD_len] at hi) k) (by rw [rngD_len]; exact fin)
/-- the items one by one, no count -/
theorem v_forM {f : D → M Flow} {xs : List D} (I : St → Prop) (h0 : I s) (st : ∀ x ∈ xs, ∀ s, I s → V (f x s) (lpK I F) ⟨⟩) (fin : ∀ s, I s → F .next s) : V (forL f xs s) F ⟨⟩ :=
  v_for (fun _ => I) h0 (fun i s hi k => st _ (List.getElem_mem hi) s k) fin
/-- a while by what is left to do -/
theorem v_while {c : M Bool} {f : M Flow} (I : Nat → St → Prop) (st : ∀ n s, I n s → V (c s) (fun k s => Br k (V (f s) (lpK (fun s => ∃ m, m < n ∧ I m s) F) ⟨⟩) (F .next s) ⟨⟩ ⟨⟩) ⟨⟩) : ∀ {fuel n : Nat} {s : St}, n < fuel → I n s → V (whileN c f fuel s) F ⟨⟩
  | 0, n, s, h, _ => absurd h (Nat.not_lt_zero _)
  | fuel + 1, n, s, h, h0 => by
    rw [V_eq, whileN, w_bind]
    have h1 := st n s h0
    rw [V_eq] at h1
    refine W.mono h1 fun k s2 q => ?_
    cases k with
    | false => exact q
    | true =>
      have q2 : V (f s2) (lpK (fun s => ∃ m, m < n ∧ I m s) F) ⟨⟩ := q
      rw [V_eq] at q2
      show W (M.bind f _ s2) F
      rw [w_bind]
      refine W.mono q2 fun w s3 q3 => ?_
      cases w with
      | next =>
        obtain ⟨m, hm, h3⟩ := q3
        have := v_while I st (fuel := fuel) (n := m) (by omega) h3
        rw [V_eq] at this
        exact this
      | cont =>
        obtain ⟨m, hm, h3⟩ := q3
        have := v_while I st (fuel := fuel) (n := m) (by omega) h3
        rw [V_eq] at this
        exact this
      | brk => exact q3
      | ret o => exact q3
theorem v_for0 {f : D → M Flow} : V (forL f [] s) F t = F .next s := by simp only [V_eq, Vc_eq, X, Br]; rfl
theorem v_for1 {f : D → M Flow} {x : D} {xs : List D} : V (forL f (x :: xs) s) F t = V (f x s) (lpK (fun s => V (forL f xs s) F ⟨⟩) F) ⟨⟩ := by
  simp only [V_eq]
  rw [forL, w_bind]
  congr 1
  funext w s
  cases w <;> simp only [lpK, V_eq] <;> rfl
end
section
variable {G : List D → St → Prop} {t : Tag G}
/-- a comprehension's turns -/
def cpK (acc : List D) (I : List D → St → Prop) : Option D → St → Prop
  | some y, s => acc.length < sizeLine ∧ I (acc ++ [y]) s
  | none, s => I acc s
theorem cpK_s {acc : List D} {I : List D → St → Prop} {y : D} : cpK acc I (some y) s = (acc.length < sizeLine ∧ I (acc ++ [y]) s) := rfl
theorem cpK_n {acc : List D} {I : List D → St → Prop} : cpK acc I none s = I acc s := rfl
theorem v_compL {f : D → M (Option D)} {xs : List D} (I : Nat → List D → St → Prop) (h0 : I 0 [] s) (st : ∀ i acc s (hi : i < xs.length), I i acc s → V (f xs[i] s) (cpK acc (I (i + 1))) ⟨⟩) (fin : ∀ acc s, I xs.length acc s → G acc s) : V (compL f xs [] s) G ⟨⟩ := by
  rw [V_eq]
  exact w_compL I 0 xs [] rfl (Nat.zero_le _) h0 (fun i acc s hi k => by
    have h := st i acc s hi k
    rw [V_eq] at h
    exact W.mono h fun w s' k => by cases w <;> exact k) fin
theorem v_compR {f : D → M (Option D)} {n : Nat} (I : Nat → List D → St → Prop) (h0 : I 0 [] s) (st : ∀ i acc s, i < n → I i acc s → V (f (.int (i : Nat)) s) (cpK acc (I (i + 1))) ⟨⟩) (fin : ∀ acc s, I n acc s → G acc s) : V (compL f (rngD 0 n) [] s) G ⟨⟩ :=
  v_compL I h0 (fun i acc s hi k => by rw [rngD_at, Int.zero_add]; exact st i acc s (by rwa [rngD_len] at hi) k) (by rw [rngD_len]; exact fin)
theorem v_turn {elt tg cond : E} {own : List Nat} {x : D} {s : St} {G : Option D → St → Prop} {t : Tag G} : V (turn cl fl elt tg cond own x s) G t = V (asg cl fl tg (.d x) ⟨wipeE s.e own, s.h⟩) (fun _ s => V (hd cl fl cond s) (fun z s => V (truth z s) (fun k s =>
    Br k (V (hd cl fl elt s) (fun y s => V (take y s) (fun o s => V (stow (fresh elt) o s) (fun v s => G (some v) s) ⟨⟩) ⟨⟩) ⟨⟩) (G none s) ⟨⟩ ⟨⟩) ⟨⟩) ⟨⟩) ⟨⟩ := by simp only [V_eq, Vc_eq, X, Br]; exact p_turn
end
theorem wipe0 : wipeE e [] = e := rfl
theorem wipe1 {i : Nat} {r : List Nat} : wipeE e (i :: r) = (wipeE e r).set i .hole := rfl
theorem back0 {e0 : List O} : backE e0 e [] = e := rfl
theorem back1 {e0 : List O} {i : Nat} {r : List Nat} : backE e0 e (i :: r) = (backE e0 e r).set i (e0.getD i .hole) := rfl
theorem fin_r {G : O → List O → Prop} {o : O} {e h : List O} : Fin G (.ret o) ⟨e, h⟩ = G o h := rfl
theorem fin_n {G : O → List O → Prop} {e h : List O} : Fin G .next ⟨e, h⟩ = G (.d .non) h := rfl
theorem cl_fn {tb : Tab} {r : Nat → List O → List O → CRes} {f : Nat} {os h : List O} : (tb.cl r).fn f os h = r f os h := rfl
theorem vc_run {tb : Tab} {n f : Nat} {os h : List O} {G : O → List O → Prop} {d : Df} (hd : tb.defs[f]? = some d) (hl : os.length = d.np)
    (k : V (ex (tb.cl (run tb wf n)) tb.fl wf d.body ⟨os ++ List.replicate (d.ns - d.np) .hole, h⟩) (Fin G) ⟨⟩) : Vc (run tb wf (n + 1) f os h) G ⟨⟩ := by
  rw [V_eq] at k
  rw [Vc_eq]
  exact wc_run hd hl k
theorem Vc.to {r : CRes} {G : O → List O → Prop} {t : Tag G} (h : Wc r G) : Vc r G t := .mk h
theorem V.mono {α : Type} {r : Res α} {G G' : α → St → Prop} {t : Tag G} {t' : Tag G'} (h : V r G t) (k : ∀ a s, G a s → G' a s) : V r G' t' := by
  rw [V_eq] at h ⊢
  exact W.mono h k
theorem Vc.mono {r : CRes} {G G' : O → List O → Prop} {t : Tag G} {t' : Tag G'} (h : Vc r G t) (k : ∀ o h, G o h → G' o h) : Vc r G' t' := by
  rw [Vc_eq] at h ⊢
  exact Wc.mono h k
end
theorem fresh_var {x0 : Nat} : fresh (.var x0) = false := rfl
theorem fresh_con {x0 : D} : fresh (.con x0) = false := rfl
theorem fresh_bin {x0 : Bop} {x1 : E} {x2 : E} : fresh (.bin x0 x1 x2) = false := rfl
theorem fresh_neg {x0 : E} : fresh (.neg x0) = false := rfl
theorem fresh_cmp {x0 : Cop} {x1 : E} {x2 : E} : fresh (.cmp x0 x1 x2) = false := rfl
theorem fresh_chn {x0 : Cop} {x1 : Cop} {x2 : E} {x3 : E} {x4 : E} : fresh (.chn x0 x1 x2 x3 x4) = false := rfl
theorem fresh_one {x0 : E} : fresh (.one x0) = false := rfl
theorem fresh_and {x0 : E} {x1 : E} : fresh (.and x0 x1) = false := rfl
theorem fresh_or {x0 : E} {x1 : E} : fresh (.or x0 x1) = false := rfl
theorem fresh_not {x0 : E} : fresh (.not x0) = false := rfl
theorem fresh_ite {x0 : E} {x1 : E} {x2 : E} : fresh (.ite x0 x1 x2) = false := rfl
theorem fresh_tup {x0 : E} : fresh (.tup x0) = false := rfl
theorem fresh_idx {x0 : E} {x1 : E} : fresh (.idx x0 x1) = false := rfl
theorem fresh_sl {x0 : E} {x1 : E} {x2 : E} : fresh (.sl x0 x1 x2) = false := rfl
theorem fresh_rev {x0 : E} : fresh (.rev x0) = false := rfl
theorem fresh_stp {x0 : E} {x1 : Nat} : fresh (.stp x0 x1) = false := rfl
theorem fresh_rngl {x0 : E} : fresh (.rngl x0) = false := rfl
theorem fresh_rngt {x0 : E} : fresh (.rngt x0) = false := rfl
theorem fresh_sumS {x0 : E} : fresh (.sumS x0) = false := rfl
theorem fresh_fst {x0 x1 : E} {z : Str} : fresh (.fst x0 z x1) = false := rfl
theorem fresh_call {x0 : Nat} {x1 : E} : fresh (.call x0 x1) = false := rfl
theorem fresh_blt {x0 : Bi} {x1 : E} : fresh (.blt x0 x1) = false := rfl
theorem fresh_app {x0 : E} {x1 : E} : fresh (.app x0 x1) = false := rfl
theorem fresh_mth {x0 : Mi} {x1 : E} {x2 : E} : fresh (.mth x0 x1 x2) = false := rfl
theorem fresh_omt {x0 : Str} {x1 : E} {x2 : E} : fresh (.omt x0 x1 x2) = false := rfl
theorem fresh_new {x0 : Nat} {x1 : E} : fresh (.new x0 x1) = false := rfl
theorem fresh_fld {x0 : E} {x1 : Str} : fresh (.fld x0 x1) = false := rfl
theorem fresh_comp {x0 : E} {x1 : E} {x2 : E} {x3 : E} {x4 : List Nat} : fresh (.comp x0 x1 x2 x3 x4) = false := rfl
theorem fresh_callD {x0 : Nat} {x1 : E} {x2 : List L2.Key} : fresh (.callD x0 x1 x2) = false := rfl
theorem fresh_repL {x0 : E} : fresh (.repL x0) = false := rfl
theorem fresh_slen {x0 : E} : fresh (.slen x0) = false := rfl
theorem fresh_slenC {x0 x1 x2 x3 : E} {x4 : List Nat} : fresh (.slenC x0 x1 x2 x3 x4) = false := rfl
theorem fresh_comp2 {x0 x1 x2 x3 x4 x5 x6 : E} {x7 x8 : List Nat} : fresh (.comp2 x0 x1 x2 x3 x4 x5 x6 x7 x8) = false := rfl
theorem fresh_lst0 : fresh (.lst .nil) = true := rfl
theorem fresh_lst1 {a b : E} : fresh (.lst (.cons a b)) = false := rfl
theorem fresh_dsp0 : fresh (.dsp .nil) = true := rfl
theorem fresh_dsp1 {a b : E} : fresh (.dsp (.cons a b)) = false := rfl
/-! operators -/
section
variable {K : O → Prop} {t : Tag K} {i j : Int}
theorem x_add : X (binop .add (.d (.int i)) (.d (.int j))) K t = K (.d (.int (i + j))) := by simp [X, binop, badd]
theorem x_sub : X (binop .sub (.d (.int i)) (.d (.int j))) K t = K (.d (.int (i - j))) := by simp [X, binop]
theorem x_mul : X (binop .mul (.d (.int i)) (.d (.int j))) K t = (((-18446744073709551616 < i ∧ i < 18446744073709551616) ∨ (-18446744073709551616 < j ∧ j < 18446744073709551616)) ∧ K (.d (.int (i * j)))) := by
  have e : ((small64 i || small64 j) = true) = ((-18446744073709551616 < i ∧ i < 18446744073709551616) ∨ (-18446744073709551616 < j ∧ j < 18446744073709551616)) := by simp [small64]
  rw [← e]
  by_cases h : (small64 i || small64 j) = true <;> simp [X, binop, bmul, h]
theorem x_fdiv : X (binop .fdiv (.d (.int i)) (.d (.int j))) K t = ((j ≠ 0 ∧ -1073741824 < j ∧ j < 1073741824) ∧ K (.d (.int (i.fdiv j)))) := by
  have e : (decide (j ≠ 0) && decide (j.natAbs < 1073741824)) = decide (j ≠ 0 ∧ -1073741824 < j ∧ j < 1073741824) := by
    rw [← Bool.decide_and]
    congr 1
    refine propext ⟨fun h => ?_, fun h => ?_⟩ <;> omega
  simp only [X, binop, e]
  by_cases h : (j ≠ 0 ∧ -1073741824 < j ∧ j < 1073741824)
  · rw [if_pos (decide_eq_true h)]; simp [h]
  · rw [if_neg (by simp only [decide_eq_true_eq]; exact h)]
    exact propext (Iff.intro (fun w => by obtain ⟨_, q, _⟩ := w; cases q) (fun q => absurd q.1 h))
theorem x_mod : X (binop .mod (.d (.int i)) (.d (.int j))) K t = (j ≠ 0 ∧ K (.d (.int (i.fmod j)))) := by
  by_cases h : j = 0 <;> simp [X, binop, h]
theorem x_pow : X (binop .pow (.d (.int i)) (.d (.int j))) K t = ((0 ≤ j ∧ j ≤ 1000000 ∧ -18446744073709551616 < i ∧ i < 18446744073709551616) ∧ K (.d (.int (i ^ j.toNat)))) := by
  have e : (decide (0 ≤ j) && decide (j ≤ 1000000) && decide (i.natAbs < 2 ^ 64)) = decide (0 ≤ j ∧ j ≤ 1000000 ∧ -18446744073709551616 < i ∧ i < 18446744073709551616) := by
    rw [← Bool.decide_and, ← Bool.decide_and]
    congr 1
    refine propext ⟨fun h => ?_, fun h => ?_⟩ <;> omega
  simp only [X, binop, e]
  by_cases h : (0 ≤ j ∧ j ≤ 1000000 ∧ -18446744073709551616 < i ∧ i < 18446744073709551616)
  · rw [if_pos (decide_eq_true h)]; simp [h]
  · rw [if_neg (by simp only [decide_eq_true_eq]; exact h)]
    exact propext (Iff.intro (fun w => by obtain ⟨_, q, _⟩ := w; cases q) (fun q => absurd q.1 h))
theorem x_addS {x y : Str} : X (binop .add (.d (.str x)) (.d (.str y))) K t = (line (x.length + y.length) = true ∧ K (.d (.str (x ++ y)))) := by
  by_cases h : line (x.length + y.length) = true <;> simp [X, binop, badd, h]
theorem x_addT {x y : List D} : X (binop .add (.d (.tup x)) (.d (.tup y))) K t = (line (x.length + y.length) = true ∧ K (.d (.tup (x ++ y)))) := by
  by_cases h : line (x.length + y.length) = true <;> simp [X, binop, badd, h]
theorem x_addLL {x y : List D} : X (binop .add (.lst x) (.lst y)) K t = (line (x.length + y.length) = true ∧ K (.lst (x ++ y))) := by
  by_cases h : line (x.length + y.length) = true <;> simp [X, binop, badd, lv, h]
theorem x_addDL {x y : List D} : X (binop .add (.d (.lst x)) (.lst y)) K t = (line (x.length + y.length) = true ∧ K (.lst (x ++ y))) := by
  by_cases h : line (x.length + y.length) = true <;> simp [X, binop, badd, lv, h]
theorem x_addLD {x y : List D} : X (binop .add (.lst x) (.d (.lst y))) K t = (line (x.length + y.length) = true ∧ K (.lst (x ++ y))) := by
  by_cases h : line (x.length + y.length) = true <;> simp [X, binop, badd, lv, h]
theorem x_addDD {x y : List D} : X (binop .add (.d (.lst x)) (.d (.lst y))) K t = (line (x.length + y.length) = true ∧ K (.lst (x ++ y))) := by
  by_cases h : line (x.length + y.length) = true <;> simp [X, binop, badd, lv, h]
theorem x_augA {K : Int → Prop} {t : Tag K} : X (augI .add i j) K t = K (i + j) := by simp [X, augI]
theorem x_augS {K : Int → Prop} {t : Tag K} : X (augI .sub i j) K t = K (i - j) := by simp [X, augI]
end
section
variable {K : Bool → Prop} {t : Tag K} {i j : Int}
theorem x_lt : X (cmpop .lt (.d (.int i)) (.d (.int j))) K t = K (decide (i < j)) := by simp [X, cmpop]
theorem x_le : X (cmpop .le (.d (.int i)) (.d (.int j))) K t = K (decide (i ≤ j)) := by simp [X, cmpop]
theorem x_gt : X (cmpop .gt (.d (.int i)) (.d (.int j))) K t = K (decide (j < i)) := by simp [X, cmpop]
theorem x_ge : X (cmpop .ge (.d (.int i)) (.d (.int j))) K t = K (decide (j ≤ i)) := by simp [X, cmpop]
theorem x_eqI : X (cmpop .eq (.d (.int i)) (.d (.int j))) K t = K (decide (i = j)) := by
  have : eqo (.d (.int i)) (.d (.int j)) = some (decide (i = j)) := eqo_int.trans (by congr 1)
  simp [X, cmpop, this]
theorem x_neI : X (cmpop .ne (.d (.int i)) (.d (.int j))) K t = K (decide (¬ i = j)) := by
  have : cmpop .ne (.d (.int i)) (.d (.int j)) = some (decide (¬ i = j)) := by
    rw [show cmpop .ne (.d (.int i)) (.d (.int j)) = some (!(i == j)) from rfl]
    by_cases h : i = j <;> simp [h]
  simp only [X, this, Option.some.injEq, exists_eq_left']
theorem x_eqS {x y : Str} : X (cmpop .eq (.d (.str x)) (.d (.str y))) K t = K (decide (x = y)) := by
  simp only [X, cmpop, eqo_str, Option.some.injEq, exists_eq_left']
theorem x_neS {x y : Str} : X (cmpop .ne (.d (.str x)) (.d (.str y))) K t = K (!decide (x = y)) := by
  simp only [X, cmpop, eqo_str, Option.map_some, Option.some.injEq, exists_eq_left']
theorem x_eqN {xs : List D} (h : ∀ x ∈ xs, dk 63 x) : X (cmpop .eq (.lst xs) (.lst [])) K t = K xs.isEmpty := by
  simp [X, cmpop, (eq_nil h).2]
theorem x_neN {xs : List D} (h : ∀ x ∈ xs, dk 63 x) : X (cmpop .ne (.lst xs) (.lst [])) K t = K (!xs.isEmpty) := by
  cases hh : xs.isEmpty <;> simp [X, cmpop, (eq_nil h).2, hh]
theorem x_eqND {xs : List D} (h : ∀ x ∈ xs, dk 63 x) : X (cmpop .eq (.d (.lst xs)) (.lst [])) K t = K xs.isEmpty := by
  simp [X, cmpop, (eq_nil h).1]
theorem x_neND {xs : List D} (h : ∀ x ∈ xs, dk 63 x) : X (cmpop .ne (.d (.lst xs)) (.lst [])) K t = K (!xs.isEmpty) := by
  cases hh : xs.isEmpty <;> simp [X, cmpop, (eq_nil h).1, hh]
theorem x_isN {x : D} (hx : tyName (.d x) ≠ none) : X (cmpop .isN (.d x) (.d .non)) K t = K (match x with | .non => true | _ => false) := by
  cases x <;> simp [X, cmpop, tyName] at hx ⊢
theorem x_notN {x : D} (hx : tyName (.d x) ≠ none) : X (cmpop .notN (.d x) (.d .non)) K t = K (match x with | .non => false | _ => true) := by
  cases x <;> simp [X, cmpop, tyName] at hx ⊢
theorem x_isNn : X (cmpop .isN (.d .non) (.d .non)) K t = K true := by simp [X, cmpop]
theorem x_isB {a b : Bool} : X (cmpop .isN (.d (.bl a)) (.d (.bl b))) K t = K (decide (a = b)) := by simp [X, cmpop]
theorem x_ntB {a b : Bool} : X (cmpop .notN (.d (.bl a)) (.d (.bl b))) K t = K (!decide (a = b)) := by cases a <;> cases b <;> simp [X, cmpop]
theorem x_fmtI {i : Int} {K : Str → Prop} {t : Tag K} : X (fmtV (.d (.int i))) K t = (i.natAbs.log2 < 1920 ∧ K (toString i)) := by
  by_cases h : i.natAbs.log2 < 1920 <;> simp [X, fmtV, h]
theorem x_fmtS {y : Str} {K : Str → Prop} {t : Tag K} : X (fmtV (.d (.str y))) K t = (line y.length = true ∧ K y) := by
  by_cases h : line y.length = true <;> simp [X, fmtV, h]
theorem x_striS {y : Str} {K : O → Prop} {t : Tag K} : X (bltop .stri [.d (.str y)]) K t = K (.d (.str y)) := by simp [X, bltop, bStri]
theorem x_isNt {xs : List D} : X (cmpop .isN (.d (.tup xs)) (.d .non)) K t = K false := by simp [X, cmpop]
theorem x_isNi : X (cmpop .isN (.d (.int i)) (.d .non)) K t = K false := by simp [X, cmpop]
theorem x_ntNn : X (cmpop .notN (.d .non) (.d .non)) K t = K false := by simp [X, cmpop]
theorem x_ntNt {xs : List D} : X (cmpop .notN (.d (.tup xs)) (.d .non)) K t = K true := by simp [X, cmpop]
theorem x_ntNi : X (cmpop .notN (.d (.int i)) (.d .non)) K t = K true := by simp [X, cmpop]
end
section
variable {K : D → Prop} {t : Tag K} {i j : Int}
theorem x_ixL {xs : List D} : X (getIdx (.lst xs) (.d (.int i))) K t = X (L2.atI xs i) K ⟨⟩ := rfl
theorem x_ixD {xs : List D} : X (getIdx (.d (.lst xs)) (.d (.int i))) K t = X (L2.atI xs i) K ⟨⟩ := rfl
theorem x_ixT {xs : List D} : X (getIdx (.d (.tup xs)) (.d (.int i))) K t = X (L2.atI xs i) K ⟨⟩ := rfl
theorem x_at0 {x : D} {xs : List D} : X (L2.atI (x :: xs) 0) K t = K x := by simp [X, L2.atI, L2.ixN]
theorem x_atS {x : D} {xs : List D} (n : Nat) : X (L2.atI (x :: xs) ((n + 1 : Nat) : Int)) K t = X (L2.atI xs (n : Nat)) K ⟨⟩ := by
  have h1 : (0 : Int) ≤ ((n + 1 : Nat) : Int) := by omega
  have h2 : (0 : Int) ≤ ((n : Nat) : Int) := by omega
  have e : L2.atI (x :: xs) ((n + 1 : Nat) : Int) = L2.atI xs ((n : Nat) : Int) := by
    unfold L2.atI L2.ixN
    rw [if_pos h1, if_pos h2]
    by_cases h : n < xs.length
    · rw [if_pos (by rw [List.length_cons]; omega), if_pos (by omega)]
      simp
    · rw [if_neg (by rw [List.length_cons]; omega), if_neg (by omega)]
      rfl
  rw [e]
theorem x_at1 {x : D} {xs : List D} : X (L2.atI (x :: xs) 1) K t = X (L2.atI xs 0) K ⟨⟩ := x_atS 0
theorem x_at2 {x : D} {xs : List D} : X (L2.atI (x :: xs) 2) K t = X (L2.atI xs 1) K ⟨⟩ := x_atS 1
theorem x_at3 {x : D} {xs : List D} : X (L2.atI (x :: xs) 3) K t = X (L2.atI xs 2) K ⟨⟩ := x_atS 2
theorem at_ok {xs : List D} (h0 : 0 ≤ i) (h1 : i < xs.length) : L2.atI xs i = some (xs[i.toNat]'(by omega)) := by
  unfold L2.atI L2.ixN
  rw [if_pos h0, if_pos h1]
  simp
theorem x_atM {xs : List D} (h0 : 0 ≤ i) (h1 : i < xs.length) (k : ∀ x ∈ xs, K x) : X (L2.atI xs i) K ⟨⟩ := ⟨_, at_ok h0 h1, k _ (List.getElem_mem _)⟩
end
section
variable {K : O → Prop} {t : Tag K} {i j : Int}
theorem x_lenL {xs : List D} : X (bltop .len [.lst xs]) K t = K (.d (.int ((xs.length : Nat) : Int))) := by simp [X, bltop, bLen, lenOf]
theorem x_lenD {xs : List D} : X (bltop .len [.d (.lst xs)]) K t = K (.d (.int ((xs.length : Nat) : Int))) := by simp [X, bltop, bLen, lenOf]
theorem x_lenT {xs : List D} : X (bltop .len [.d (.tup xs)]) K t = K (.d (.int ((xs.length : Nat) : Int))) := by simp [X, bltop, bLen, lenOf]
theorem x_lenS {x : Str} : X (bltop .len [.d (.str x)]) K t = (line x.length = true ∧ K (.d (.int ((x.length : Nat) : Int)))) := by
  by_cases h : line x.length = true <;> simp [X, bltop, bLen, lenOf, h]
theorem x_tupL {xs : List D} : X (bltop .tup [.lst xs]) K t = K (.d (.tup xs)) := by simp [X, bltop, bTup, lv]
theorem x_tupD {xs : List D} : X (bltop .tup [.d (.lst xs)]) K t = K (.d (.tup xs)) := by simp [X, bltop, bTup, lv]
theorem x_tupT {xs : List D} : X (bltop .tup [.d (.tup xs)]) K t = K (.d (.tup xs)) := by simp [X, bltop, bTup]
theorem x_lstS {x : Str} : X (bltop .lst [.d (.str x)]) K t = (x.length ≤ 1000000 ∧ K (.lst (signs x))) := by
  by_cases h : x.length ≤ 1000000 <;> simp [X, bltop, bLst, h]
theorem x_lstL {xs : List D} : X (bltop .lst [.lst xs]) K t = K (.lst xs) := by simp [X, bltop, bLst, sv, lv]
theorem x_lstD {xs : List D} : X (bltop .lst [.d (.lst xs)]) K t = K (.lst xs) := by simp [X, bltop, bLst, sv, lv]
theorem x_lstT {xs : List D} : X (bltop .lst [.d (.tup xs)]) K t = K (.lst xs) := by simp [X, bltop, bLst, sv]
theorem x_revL {xs : List D} : X (getRev (.lst xs)) K t = K (.lst xs.reverse) := by simp [X, getRev, lv]
theorem x_revT {xs : List D} : X (getRev (.d (.tup xs))) K t = K (.d (.tup xs.reverse)) := by simp [X, getRev]
theorem x_revD {xs : List D} : X (getRev (.d (.lst xs))) K t = K (.lst xs.reverse) := by simp [X, getRev, lv]
theorem x_revS {x : Str} : X (getRev (.d (.str x))) K t = (line x.length = true ∧ K (.d (.str (revS x)))) := by
  by_cases h : line x.length = true <;> simp [X, getRev, h]
theorem x_stpL {xs : List D} {k : Nat} : X (getStp k (.lst xs)) K t = K (.lst (pickK k xs)) := by simp [X, getStp, lv]
theorem x_stpD {xs : List D} {k : Nat} : X (getStp k (.d (.lst xs))) K t = K (.lst (pickK k xs)) := by simp [X, getStp, lv]
theorem x_cutT {xs : List D} {lo hi : Option Int} : X (getCut (.d (.tup xs)) lo hi) K t = K (.d (.tup (cutL xs lo hi))) := by simp [X, getCut]
theorem x_cutL {xs : List D} {lo hi : Option Int} : X (getCut (.lst xs) lo hi) K t = K (.lst (cutL xs lo hi)) := by simp [X, getCut, lv]
theorem x_cutD {xs : List D} {lo hi : Option Int} : X (getCut (.d (.lst xs)) lo hi) K t = K (.lst (cutL xs lo hi)) := by simp [X, getCut, lv]
theorem x_cutS {x : Str} {lo hi : Option Int} : X (getCut (.d (.str x)) lo hi) K t = (line x.length = true ∧ K (.d (.str (L2.cutS x lo hi)))) := by
  by_cases h : line x.length = true <;> simp [X, getCut, h]
theorem x_cutX {ns : List Int} {lo hi : Option Int} : X (getCut (.d (.scr ns)) lo hi) K t = K (.lst ((cutL ns lo hi).map .int)) := by simp [X, getCut]
end
section
variable {K : List D × D → Prop} {t : Tag K}
theorem x_app {v : D} {xs : List D} : X (fApp v xs) K t = (xs.length < sizeLine ∧ K (xs ++ [v], .non)) := by
  by_cases h : xs.length < sizeLine <;> simp [X, fApp, h]
theorem x_set0 {v x : D} {xs : List D} : X (fSet 0 v (x :: xs)) K t = K (v :: xs, .non) := by simp [X, fSet, L2.ixN]
theorem x_set1 {v x y : D} {xs : List D} : X (fSet 1 v (x :: y :: xs)) K t = K (x :: v :: xs, .non) := by
  have : (1 : Int) < (xs.length : Int) + 1 + 1 := by omega
  simp [X, fSet, L2.ixN, this]
theorem x_set2 {v x y z : D} {xs : List D} : X (fSet 2 v (x :: y :: z :: xs)) K t = K (x :: y :: v :: xs, .non) := by
  have : (2 : Int) < (xs.length : Int) + 1 + 1 + 1 := by omega
  simp [X, fSet, L2.ixN, this]
end
theorem x_frzD {x : D} {K : D → Prop} {t : Tag K} : X (frz (.d x)) K t = K x := by simp [X, frz]
theorem x_frzL {x : List D} {K : D → Prop} {t : Tag K} : X (frz (.lst x)) K t = K (.lst x) := by simp [X, frz]
theorem x_frzK {ks : List (L2.Key × D)} {K : D → Prop} {t : Tag K} : X (frz (.dct ks)) K t = K (.dct ks) := by simp [X, frz]
theorem x_itsT {x : List D} {K : List D → Prop} {t : Tag K} : X (itsOf (.d (.tup x))) K t = K x := by simp [X, itsOf]
theorem x_itsL {x : List D} {K : List D → Prop} {t : Tag K} : X (itsOf (.d (.lst x))) K t = K x := by simp [X, itsOf]
theorem x_itsS {x : Str} {K : List D → Prop} {t : Tag K} : X (itsOf (.d (.str x))) K t = K (signs x) := by simp [X, itsOf]
theorem x_unpkD {xs : List D} {K : List D → Prop} {t : Tag K} : X (unpk (.d (.lst xs))) K t = K xs := by simp [X, unpk]
theorem x_unpkL {xs : List D} {K : List D → Prop} {t : Tag K} : X (unpk (.lst xs)) K t = K xs := by simp [X, unpk]
theorem x_unpk {x : List D} {K : List D → Prop} {t : Tag K} : X (unpk (.d (.tup x))) K t = K x := by simp [X, unpk]
theorem dec_self {α : Type} [DecidableEq α] {a : α} : decide (a = a) = true := by simp
theorem line_eq {n : Nat} : (line n = true) = (n ≤ 16777216) := propext decide_eq_true_iff
theorem recv_l {m : Mi} {x : List D} (h : m ≠ .join ∧ m ≠ .get) : recv m (.lst x) = true := by cases m <;> first | rfl | exact absurd rfl h.1 | exact absurd rfl h.2
theorem recv_getK {ks : List (L2.Key × D)} : recv .get (.dct ks) = true := rfl
theorem recv_getD {ks : List (L2.Key × D)} : recv .get (.d (.dct ks)) = true := rfl
section
variable {K : O → Prop} {t : Tag K} {ks : List (L2.Key × D)} {z : Str} {i : Int} {d : D}
theorem x_getK {y : D} : X (mGet (.dct ks) [.d (.str z), .d y]) K t = K (.d ((valK ks (.inr z)).getD y)) := by simp [X, mGet, dv, keyOf]
theorem x_getF {y : D} : X (mGet (.d (.dct ks)) [.d (.str z), .d y]) K t = K (.d ((valK ks (.inr z)).getD y)) := by simp [X, mGet, dv, keyOf]
theorem x_getK1 : X (mGet (.dct ks) [.d (.str z)]) K t = K (.d ((valK ks (.inr z)).getD .non)) := by simp [X, mGet, dv, keyOf]
theorem x_getF1 : X (mGet (.d (.dct ks)) [.d (.str z)]) K t = K (.d ((valK ks (.inr z)).getD .non)) := by simp [X, mGet, dv, keyOf]
end
theorem recv_pop {x : List D} : recv .pop (.lst x) = true := rfl
theorem recv_popAt {x : List D} : recv .popAt (.lst x) = true := rfl
theorem recv_rem {x : List D} : recv .remove (.lst x) = true := rfl
theorem recv_ext {x : List D} : recv .extend (.lst x) = true := rfl
theorem recv_join {x : Str} : recv .join (.d (.str x)) = true := rfl
section
variable {K : O → Prop} {t : Tag K} {i : Int} {b : Bool} {x : Str} {xs : List D} {ks : List (L2.Key × D)}
theorem x_isi_non_str : X (bltop .isi [.d .non, .d (.ty "str")]) K t = K (.d (.bl false)) := by simp [X, bltop, bIsi, tyName, isiB, tyKnown]
theorem x_isi_non_int : X (bltop .isi [.d .non, .d (.ty "int")]) K t = K (.d (.bl false)) := by simp [X, bltop, bIsi, tyName, isiB, tyKnown]
theorem x_isi_non_bool : X (bltop .isi [.d .non, .d (.ty "bool")]) K t = K (.d (.bl false)) := by simp [X, bltop, bIsi, tyName, isiB, tyKnown]
theorem x_isi_non_tuple : X (bltop .isi [.d .non, .d (.ty "tuple")]) K t = K (.d (.bl false)) := by simp [X, bltop, bIsi, tyName, isiB, tyKnown]
theorem x_isi_non_list : X (bltop .isi [.d .non, .d (.ty "list")]) K t = K (.d (.bl false)) := by simp [X, bltop, bIsi, tyName, isiB, tyKnown]
theorem x_isi_non_dict : X (bltop .isi [.d .non, .d (.ty "dict")]) K t = K (.d (.bl false)) := by simp [X, bltop, bIsi, tyName, isiB, tyKnown]
theorem x_isi_bl_str : X (bltop .isi [.d (.bl b), .d (.ty "str")]) K t = K (.d (.bl false)) := by simp [X, bltop, bIsi, tyName, isiB, tyKnown]
theorem x_isi_bl_int : X (bltop .isi [.d (.bl b), .d (.ty "int")]) K t = K (.d (.bl true)) := by simp [X, bltop, bIsi, tyName, isiB, tyKnown]
theorem x_isi_bl_bool : X (bltop .isi [.d (.bl b), .d (.ty "bool")]) K t = K (.d (.bl true)) := by simp [X, bltop, bIsi, tyName, isiB, tyKnown]
theorem x_isi_bl_tuple : X (bltop .isi [.d (.bl b), .d (.ty "tuple")]) K t = K (.d (.bl false)) := by simp [X, bltop, bIsi, tyName, isiB, tyKnown]
theorem x_isi_bl_list : X (bltop .isi [.d (.bl b), .d (.ty "list")]) K t = K (.d (.bl false)) := by simp [X, bltop, bIsi, tyName, isiB, tyKnown]
theorem x_isi_bl_dict : X (bltop .isi [.d (.bl b), .d (.ty "dict")]) K t = K (.d (.bl false)) := by simp [X, bltop, bIsi, tyName, isiB, tyKnown]
theorem x_isi_int_str : X (bltop .isi [.d (.int i), .d (.ty "str")]) K t = K (.d (.bl false)) := by simp [X, bltop, bIsi, tyName, isiB, tyKnown]
theorem x_isi_int_int : X (bltop .isi [.d (.int i), .d (.ty "int")]) K t = K (.d (.bl true)) := by simp [X, bltop, bIsi, tyName, isiB, tyKnown]
theorem x_isi_int_bool : X (bltop .isi [.d (.int i), .d (.ty "bool")]) K t = K (.d (.bl false)) := by simp [X, bltop, bIsi, tyName, isiB, tyKnown]
theorem x_isi_int_tuple : X (bltop .isi [.d (.int i), .d (.ty "tuple")]) K t = K (.d (.bl false)) := by simp [X, bltop, bIsi, tyName, isiB, tyKnown]
theorem x_isi_int_list : X (bltop .isi [.d (.int i), .d (.ty "list")]) K t = K (.d (.bl false)) := by simp [X, bltop, bIsi, tyName, isiB, tyKnown]
theorem x_isi_int_dict : X (bltop .isi [.d (.int i), .d (.ty "dict")]) K t = K (.d (.bl false)) := by simp [X, bltop, bIsi, tyName, isiB, tyKnown]
theorem x_isi_str_str : X (bltop .isi [.d (.str x), .d (.ty "str")]) K t = K (.d (.bl true)) := by simp [X, bltop, bIsi, tyName, isiB, tyKnown]
theorem x_isi_str_int : X (bltop .isi [.d (.str x), .d (.ty "int")]) K t = K (.d (.bl false)) := by simp [X, bltop, bIsi, tyName, isiB, tyKnown]
theorem x_isi_str_bool : X (bltop .isi [.d (.str x), .d (.ty "bool")]) K t = K (.d (.bl false)) := by simp [X, bltop, bIsi, tyName, isiB, tyKnown]
theorem x_isi_str_tuple : X (bltop .isi [.d (.str x), .d (.ty "tuple")]) K t = K (.d (.bl false)) := by simp [X, bltop, bIsi, tyName, isiB, tyKnown]
theorem x_isi_str_list : X (bltop .isi [.d (.str x), .d (.ty "list")]) K t = K (.d (.bl false)) := by simp [X, bltop, bIsi, tyName, isiB, tyKnown]
theorem x_isi_str_dict : X (bltop .isi [.d (.str x), .d (.ty "dict")]) K t = K (.d (.bl false)) := by simp [X, bltop, bIsi, tyName, isiB, tyKnown]
theorem x_isi_tup_str : X (bltop .isi [.d (.tup xs), .d (.ty "str")]) K t = K (.d (.bl false)) := by simp [X, bltop, bIsi, tyName, isiB, tyKnown]
theorem x_isi_tup_int : X (bltop .isi [.d (.tup xs), .d (.ty "int")]) K t = K (.d (.bl false)) := by simp [X, bltop, bIsi, tyName, isiB, tyKnown]
theorem x_isi_tup_bool : X (bltop .isi [.d (.tup xs), .d (.ty "bool")]) K t = K (.d (.bl false)) := by simp [X, bltop, bIsi, tyName, isiB, tyKnown]
theorem x_isi_tup_tuple : X (bltop .isi [.d (.tup xs), .d (.ty "tuple")]) K t = K (.d (.bl true)) := by simp [X, bltop, bIsi, tyName, isiB, tyKnown]
theorem x_isi_tup_list : X (bltop .isi [.d (.tup xs), .d (.ty "list")]) K t = K (.d (.bl false)) := by simp [X, bltop, bIsi, tyName, isiB, tyKnown]
theorem x_isi_tup_dict : X (bltop .isi [.d (.tup xs), .d (.ty "dict")]) K t = K (.d (.bl false)) := by simp [X, bltop, bIsi, tyName, isiB, tyKnown]
theorem x_isi_dl_str : X (bltop .isi [.d (.lst xs), .d (.ty "str")]) K t = K (.d (.bl false)) := by simp [X, bltop, bIsi, tyName, isiB, tyKnown]
theorem x_isi_dl_int : X (bltop .isi [.d (.lst xs), .d (.ty "int")]) K t = K (.d (.bl false)) := by simp [X, bltop, bIsi, tyName, isiB, tyKnown]
theorem x_isi_dl_bool : X (bltop .isi [.d (.lst xs), .d (.ty "bool")]) K t = K (.d (.bl false)) := by simp [X, bltop, bIsi, tyName, isiB, tyKnown]
theorem x_isi_dl_tuple : X (bltop .isi [.d (.lst xs), .d (.ty "tuple")]) K t = K (.d (.bl false)) := by simp [X, bltop, bIsi, tyName, isiB, tyKnown]
theorem x_isi_dl_list : X (bltop .isi [.d (.lst xs), .d (.ty "list")]) K t = K (.d (.bl true)) := by simp [X, bltop, bIsi, tyName, isiB, tyKnown]
theorem x_isi_dl_dict : X (bltop .isi [.d (.lst xs), .d (.ty "dict")]) K t = K (.d (.bl false)) := by simp [X, bltop, bIsi, tyName, isiB, tyKnown]
theorem x_isi_lst_str : X (bltop .isi [.lst xs, .d (.ty "str")]) K t = K (.d (.bl false)) := by simp [X, bltop, bIsi, tyName, isiB, tyKnown]
theorem x_isi_lst_int : X (bltop .isi [.lst xs, .d (.ty "int")]) K t = K (.d (.bl false)) := by simp [X, bltop, bIsi, tyName, isiB, tyKnown]
theorem x_isi_lst_bool : X (bltop .isi [.lst xs, .d (.ty "bool")]) K t = K (.d (.bl false)) := by simp [X, bltop, bIsi, tyName, isiB, tyKnown]
theorem x_isi_lst_tuple : X (bltop .isi [.lst xs, .d (.ty "tuple")]) K t = K (.d (.bl false)) := by simp [X, bltop, bIsi, tyName, isiB, tyKnown]
theorem x_isi_lst_list : X (bltop .isi [.lst xs, .d (.ty "list")]) K t = K (.d (.bl true)) := by simp [X, bltop, bIsi, tyName, isiB, tyKnown]
theorem x_isi_lst_dict : X (bltop .isi [.lst xs, .d (.ty "dict")]) K t = K (.d (.bl false)) := by simp [X, bltop, bIsi, tyName, isiB, tyKnown]
theorem x_isi_dk_str : X (bltop .isi [.d (.dct ks), .d (.ty "str")]) K t = K (.d (.bl false)) := by simp [X, bltop, bIsi, tyName, isiB, tyKnown]
theorem x_isi_dk_int : X (bltop .isi [.d (.dct ks), .d (.ty "int")]) K t = K (.d (.bl false)) := by simp [X, bltop, bIsi, tyName, isiB, tyKnown]
theorem x_isi_dk_bool : X (bltop .isi [.d (.dct ks), .d (.ty "bool")]) K t = K (.d (.bl false)) := by simp [X, bltop, bIsi, tyName, isiB, tyKnown]
theorem x_isi_dk_tuple : X (bltop .isi [.d (.dct ks), .d (.ty "tuple")]) K t = K (.d (.bl false)) := by simp [X, bltop, bIsi, tyName, isiB, tyKnown]
theorem x_isi_dk_list : X (bltop .isi [.d (.dct ks), .d (.ty "list")]) K t = K (.d (.bl false)) := by simp [X, bltop, bIsi, tyName, isiB, tyKnown]
theorem x_isi_dk_dict : X (bltop .isi [.d (.dct ks), .d (.ty "dict")]) K t = K (.d (.bl true)) := by simp [X, bltop, bIsi, tyName, isiB, tyKnown]
theorem x_isi_dct_str : X (bltop .isi [.dct ks, .d (.ty "str")]) K t = K (.d (.bl false)) := by simp [X, bltop, bIsi, tyName, isiB, tyKnown]
theorem x_isi_dct_int : X (bltop .isi [.dct ks, .d (.ty "int")]) K t = K (.d (.bl false)) := by simp [X, bltop, bIsi, tyName, isiB, tyKnown]
theorem x_isi_dct_bool : X (bltop .isi [.dct ks, .d (.ty "bool")]) K t = K (.d (.bl false)) := by simp [X, bltop, bIsi, tyName, isiB, tyKnown]
theorem x_isi_dct_tuple : X (bltop .isi [.dct ks, .d (.ty "tuple")]) K t = K (.d (.bl false)) := by simp [X, bltop, bIsi, tyName, isiB, tyKnown]
theorem x_isi_dct_list : X (bltop .isi [.dct ks, .d (.ty "list")]) K t = K (.d (.bl false)) := by simp [X, bltop, bIsi, tyName, isiB, tyKnown]
theorem x_isi_dct_dict : X (bltop .isi [.dct ks, .d (.ty "dict")]) K t = K (.d (.bl true)) := by simp [X, bltop, bIsi, tyName, isiB, tyKnown]
end
/-! objects of classes -/
section
variable {cl : Cl} {fl : Nat → List Bool} {s : St} {e h : List O} {wf : Nat}
def isK (K : Nat → List (Str × D) → Prop) : O → Prop | .ins c fs => K c fs | _ => False
theorem isK_i {K : Nat → List (Str × D) → Prop} {c : Nat} {fs : List (Str × D)} : isK K (.ins c fs) = K c fs := rfl
def sf (fs : List (Str × D)) (f : Str) (v : D) (G : List (Str × D) → Prop) (_ : Tag G) : Prop := G (setFs f v fs)
section
variable {f : Str} {a b : String} {v w : D} {r : List (Str × D)} {G : List (Str × D) → Prop} {t : Tag G} {K : D → Prop} {u : Tag K}
theorem ofs_ne (h : ¬ a = b) : ¬ Str.ofString a = Str.ofString b := fun e => h (ofString_inj e)
theorem sf_0 : sf [] f v G t = G [(f, v)] := rfl
theorem sf_hit : sf ((f, w) :: r) f v G t = G ((f, v) :: r) := by simp [sf, setFs]
theorem sf_miss (h : ¬ b = a) : sf ((Str.ofString b, w) :: r) (Str.ofString a) v G t = sf r (Str.ofString a) v (fun r' => G ((Str.ofString b, w) :: r')) ⟨⟩ := by simp [sf, setFs, ofs_ne h]
theorem flk_hit : X (List.lookup f ((f, w) :: r)) K u = K w := by simp [X, List.lookup]
theorem flk_miss (h : ¬ a = b) : X (List.lookup (Str.ofString a) ((Str.ofString b, w) :: r)) K u = X (List.lookup (Str.ofString a) r) K ⟨⟩ := by
  have : (Str.ofString a == Str.ofString b) = false := by simpa using ofs_ne h
  simp only [X, List.lookup, this]
theorem flkN_0 : (List.lookup f ([] : List (Str × D)) = none) = True := by simp
theorem flkN_miss (h : ¬ a = b) : (List.lookup (Str.ofString a) ((Str.ofString b, w) :: r) = none) = (List.lookup (Str.ofString a) r = none) := by
  have : (Str.ofString a == Str.ofString b) = false := by simpa using ofs_ne h
  simp only [List.lookup, this]
end
theorem v_fldOf {n : Nat} {f : Str} {G : D → St → Prop} {t : Tag G} : V (fldOf (.tmp (.d (.ref n))) f ⟨e, h⟩) G t = lk h n (isK fun _ fs => X (fs.lookup f) (fun v => G v ⟨e, h⟩) ⟨⟩) ⟨⟩ := by
  simp only [V_eq]
  rw [p_fldOf, lk_get]
  dsimp only
  cases hh : h[n]? with
  | none => rfl
  | some o => cases o <;> rfl
theorem v_clsOf {n : Nat} {m : Str} {G : Nat × Nat → St → Prop} {t : Tag G} : V (clsOf (.tmp (.d (.ref n))) m ⟨e, h⟩) G t = lk h n (isK fun c fs => fs.lookup m = none ∧ G (c, n) ⟨e, h⟩) ⟨⟩ := by
  simp only [V_eq]
  rw [p_clsOf, lk_get]
  dsimp only
  cases hh : h[n]? with
  | none => rfl
  | some o => cases o <;> rfl
theorem v_setFld {n : Nat} {f : Str} {v : D} {G : Unit → St → Prop} {t : Tag G} : V (setFld (.tmp (.d (.ref n))) f v ⟨e, h⟩) G t = lk h n (isK fun c fs => fs.length < 1000 ∧ sf fs f v (fun fs' => sto h n (.ins c fs') (fun h' => G () ⟨e, h'⟩) ⟨⟩) ⟨⟩) ⟨⟩ := by
  simp only [V_eq]
  rw [p_setFld, lk_get]
  dsimp only
  cases hh : h[n]? with
  | none => rfl
  | some o =>
    have hi : n < h.length := (List.getElem?_eq_some_iff.mp hh).1
    cases o <;> first | rfl | skip
    simp [isK, sfK, sf, sto_get, hi]
theorem v_publD {x : D} {G : D → St → Prop} {t : Tag G} : V (publ (.d x) s) G t = G x s := by rw [V_eq]; exact p_publD
theorem v_publL {x : List D} {G : D → St → Prop} {t : Tag G} : V (publ (.lst x) s) G t = G (.ref s.h.length) ⟨s.e, s.h ++ [.lst x]⟩ := by rw [V_eq]; exact p_publL
theorem v_aFld {a : E} {f : Str} {o : O} {G : Unit → St → Prop} {t : Tag G} : V (asg cl fl (.fld a f) o s) G t = V (hd cl fl a s) (fun x s => V (publ o s) (fun v s => V (setFld x f v s) G ⟨⟩) ⟨⟩) ⟨⟩ := by simp only [V_eq]; exact p_aFld
theorem v_augF {o : E} {f : Str} {op : Bop} {x : E} {F : Flow → St → Prop} {t : Tag F} : V (ex cl fl wf (.augF o f op x) s) F t = V (hd cl fl o s) (fun x' s => V (fldOf x' f s) (fun v s => V (hd cl fl x s) (fun y s => V (intOf (.tmp (.d v)) s) (fun a s => V (intOf y s) (fun b s => X (augI op a b) (fun r => V (setFld x' f (.int r) s) (fun _ s => F .next s) ⟨⟩) ⟨⟩) ⟨⟩) ⟨⟩) ⟨⟩) ⟨⟩) ⟨⟩ := by
  simp only [V_eq, X]; exact p_augF
theorem v_omt {m : Str} {o es : E} {G : Hd → St → Prop} {t : Tag G} : V (hd cl fl (.omt m o es) s) G t = V (hd cl fl o s) (fun x s => V (clsOf x m s) (fun c s => X (cl.mt c.1 m) (fun f => V (avs cl fl (fl f).tail es s) (fun os s => Vc (cl.fn f (.d (.ref c.2) :: os) s.h) (fun o h' => G (.tmp o) ⟨s.e, h'⟩) ⟨⟩) ⟨⟩) ⟨⟩) ⟨⟩) ⟨⟩ := by
  simp only [V_eq, Vc_eq, X]; exact p_omt
theorem newK_n {G : Hd → St → Prop} {r : Nat} {h' : List O} : newK G r e (.d .non) h' = G (.tmp (.d (.ref r))) ⟨e, h'⟩ := rfl
theorem v_new {c : Nat} {es : E} {G : Hd → St → Prop} {t : Tag G} : V (hd cl fl (.new c es) s) G t = X (cl.ini c) (fun f => V (avs cl fl (fl f).tail es s) (fun os s => Vc (cl.fn f (.d (.ref s.h.length) :: os) (s.h ++ [.ins c []])) (newK G s.h.length s.e) ⟨⟩) ⟨⟩) ⟨⟩ := by
  simp only [V_eq, Vc_eq, X]; exact p_new
theorem cl_mt {tb : Tab} {r : Nat → List O → List O → CRes} {c : Nat} {m : Str} : (tb.cl r).mt c m = tb.mtOf c m := rfl
theorem cl_ini {tb : Tab} {r : Nat → List O → List O → CRes} {c : Nat} : (tb.cl r).ini c = tb.iniOf c := rfl
theorem x_some {α : Type} {a : α} {K : α → Prop} {t : Tag K} : X (some a) K t = K a := by simp [X]
end
/-! defaults, len of sets, comprehensions of two fors -/
section
variable {cl : Cl} {fl : Nat → List Bool} {s : St} {wf : Nat} {G : Hd → St → Prop} {t : Tag G}
theorem v_slen {a : E} : V (hd cl fl (.slen a) s) G t = V (hd cl fl a s) (fun x s => V (look x s) (fun p s => X (bSlen p) (fun r => G (.tmp r) s) ⟨⟩) ⟨⟩) ⟨⟩ := by
  simp only [V_eq, X]
  rw [hd]
  simp only [w_bind, p_opt, w_ret]
def kys : List L2.Key → List O
  | [] => []
  | k :: r => .d (keyD k) :: kys r
theorem kys_0 : kys [] = [] := rfl
theorem kys_i {i : Int} {r : List L2.Key} : kys (.inl i :: r) = .d (.int i) :: kys r := rfl
theorem kys_s {x : Str} {r : List L2.Key} : kys (.inr x :: r) = .d (.str x) :: kys r := rfl
theorem kys_eq : ∀ {ks : List L2.Key}, (ks.map fun k => O.d (keyD k)) = kys ks
  | [] => rfl
  | k :: r => by rw [List.map_cons, kys_eq, kys]
theorem v_callD {f : Nat} {es : E} {ks : List L2.Key} : V (hd cl fl (.callD f es ks) s) G t = V (avs cl fl (fl f) es s) (fun os s => Vc (cl.fn f (os ++ kys ks) s.h) (fun o h' => G (.tmp o) ⟨s.e, h'⟩) ⟨⟩) ⟨⟩ := by
  simp only [V_eq, Vc_eq]
  unfold hd
  rw [w_bind]
  congr 1
  funext os s
  rw [kys_eq]
  cases cl.fn f (os ++ kys ks) s.h <;> rfl
theorem v_comp2 {elt tg it cond t1 it1 cond1 : E} {own own1 : List Nat} : V (hd cl fl (.comp2 elt tg it cond t1 it1 cond1 own own1) s) G t = V (its cl fl it s) (fun xs s1 => V (comp2L (turn2 cl fl elt tg cond t1 it1 cond1 own own1) xs [] s1) (fun acc s => G (.tmp (.lst acc)) ⟨backE s1.e (wipeE s.e own) own, s.h⟩) ⟨⟩) ⟨⟩ := by
  simp only [V_eq]
  rw [hd, w_bind]
  congr 1; funext xs s1
  show W (match comp2L (turn2 cl fl elt tg cond t1 it1 cond1 own own1) xs [] s1 with
        | .ok os s' => Res.ok (Hd.tmp (.lst os)) { s' with e := backE s1.e (wipeE s'.e own) own }
        | .exc c v s' => .exc c v s'
        | .bad => .bad) G = _
  cases comp2L (turn2 cl fl elt tg cond t1 it1 cond1 own own1) xs [] s1 <;> rfl
theorem v_slenC {elt tg it cond : E} {own : List Nat} : V (hd cl fl (.slenC elt tg it cond own) s) G t = V (its cl fl it s) (fun xs s1 => V (compS (turnS cl fl elt tg cond own) xs [] s1) (fun acc s => G (.tmp (.d (.int acc.length))) ⟨backE s1.e (wipeE s.e own) own, s.h⟩) ⟨⟩) ⟨⟩ := by
  simp only [V_eq]
  rw [hd, w_bind]
  congr 1; funext xs s1
  show W (match compS (turnS cl fl elt tg cond own) xs [] s1 with
        | .ok os s' => Res.ok (Hd.tmp (.d (.int os.length))) { s' with e := backE s1.e (wipeE s'.e own) own }
        | .exc c v s' => .exc c v s'
        | .bad => .bad) G = _
  cases compS (turnS cl fl elt tg cond own) xs [] s1 <;> rfl
end
section
variable {cl : Cl} {fl : Nat → List Bool} {s : St}
theorem v_turn2 {elt tg cond t1 it1 cond1 : E} {own own1 : List Nat} {x : D} {acc : List D} {G : List D → St → Prop} {t : Tag G} : V (turn2 cl fl elt tg cond t1 it1 cond1 own own1 x acc s) G t = V (asg cl fl tg (.d x) ⟨wipeE s.e own, s.h⟩) (fun _ s => V (hd cl fl cond s) (fun z s => V (truth z s) (fun k s =>
    Br k (V (its cl fl it1 s) (fun ys s => V (compL (turn cl fl elt t1 cond1 own1) ys acc s) G ⟨⟩) ⟨⟩) (G acc s) ⟨⟩ ⟨⟩) ⟨⟩) ⟨⟩) ⟨⟩ := by
  simp only [V_eq, Br]
  unfold turn2
  simp only [w_bind, w_iteM, w_ret]
def strG (G : Option Str → St → Prop) : Hd → St → Prop
  | .tmp (.d (.str z)), s => G (some z) s
  | _, _ => False
theorem strG_s {G : Option Str → St → Prop} {z : Str} : strG G (.tmp (.d (.str z))) s = G (some z) s := rfl
theorem v_turnS {elt tg cond : E} {own : List Nat} {x : D} {G : Option Str → St → Prop} {t : Tag G} : V (turnS cl fl elt tg cond own x s) G t = V (asg cl fl tg (.d x) ⟨wipeE s.e own, s.h⟩) (fun _ s => V (hd cl fl cond s) (fun z s => V (truth z s) (fun k s =>
    Br k (V (hd cl fl elt s) (strG G) ⟨⟩) (G none s) ⟨⟩ ⟨⟩) ⟨⟩) ⟨⟩) ⟨⟩ := by
  simp only [V_eq, Br]
  unfold turnS
  simp only [w_bind, w_iteM, w_ret]
  congr 1; funext _ s
  congr 1; funext z s
  congr 1; funext k s
  congr 1
  congr 1; funext y s
  unfold strG
  split <;> rename_i h <;> first | rfl | skip
  split
  · exact absurd rfl (h _)
  · rfl
theorem v_compA {f : D → M (Option D)} {G : List D → St → Prop} : ∀ {xs acc0 : List D} {s : St} (I : Nat → List D → St → Prop) (h0 : I 0 acc0 s) (st : ∀ i acc s (hi : i < xs.length), I i acc s → V (f xs[i] s) (cpK acc (I (i + 1))) ⟨⟩) (fin : ∀ acc s, I xs.length acc s → G acc s), V (compL f xs acc0 s) G ⟨⟩
  | [], acc0, s, I, h0, st, fin => by rw [V_eq]; exact fin _ _ h0
  | x :: xs, acc0, s, I, h0, st, fin => by
    have h := st 0 acc0 s (by simp) h0
    rw [V_eq] at h ⊢
    unfold compL
    rw [w_bind]
    refine W.mono h fun o s2 k => ?_
    have go : ∀ {acc s}, I 1 acc s → V (compL f xs acc s) G ⟨⟩ := fun {acc s} k => v_compA (fun i => I (i + 1)) k (fun i acc s hi q => st (i + 1) acc s (by simp; omega) q) fin
    cases o with
    | none =>
      have q := go (show I 1 acc0 s2 from k)
      rw [V_eq] at q
      exact q
    | some y =>
      have q := go k.2
      rw [V_eq] at q
      show W (if decide (acc0.length < sizeLine) = true then compL f xs (acc0 ++ [y]) s2 else .bad) G
      rw [if_pos (decide_eq_true k.1)]
      exact q
theorem v_comp2L {f : D → List D → M (List D)} {G : List D → St → Prop} : ∀ {xs acc0 : List D} {s : St} (I : Nat → List D → St → Prop) (h0 : I 0 acc0 s) (st : ∀ i acc s (hi : i < xs.length), I i acc s → V (f xs[i] acc s) (I (i + 1)) ⟨⟩) (fin : ∀ acc s, I xs.length acc s → G acc s), V (comp2L f xs acc0 s) G ⟨⟩
  | [], acc0, s, I, h0, st, fin => by rw [V_eq]; exact fin _ _ h0
  | x :: xs, acc0, s, I, h0, st, fin => by
    have h := st 0 acc0 s (by simp) h0
    rw [V_eq] at h ⊢
    unfold comp2L
    rw [w_bind]
    refine W.mono h fun acc s2 k => ?_
    have q := v_comp2L (f := f) (G := G) (xs := xs) (fun i => I (i + 1)) k (fun i acc s hi q => st (i + 1) acc s (by simp; omega) q) fin
    rw [V_eq] at q
    exact q
/-- a set comprehension's turns -/
def csK (acc : List Str) (I : List Str → St → Prop) : Option Str → St → Prop
  | some z, s => acc.length < 4000 ∧ I (addS acc z) s
  | none, s => I acc s
theorem csK_s {acc : List Str} {I : List Str → St → Prop} {z : Str} : csK acc I (some z) s = (acc.length < 4000 ∧ I (addS acc z) s) := rfl
theorem csK_n {acc : List Str} {I : List Str → St → Prop} : csK acc I none s = I acc s := rfl
theorem v_compSL {f : D → M (Option Str)} {G : List Str → St → Prop} : ∀ {xs : List D} {acc0 : List Str} {s : St} (I : Nat → List Str → St → Prop) (h0 : I 0 acc0 s) (st : ∀ i acc s (hi : i < xs.length), I i acc s → V (f xs[i] s) (csK acc (I (i + 1))) ⟨⟩) (fin : ∀ acc s, I xs.length acc s → G acc s), V (compS f xs acc0 s) G ⟨⟩
  | [], acc0, s, I, h0, st, fin => by rw [V_eq]; exact fin _ _ h0
  | x :: xs, acc0, s, I, h0, st, fin => by
    have h := st 0 acc0 s (by simp) h0
    rw [V_eq] at h ⊢
    unfold compS
    rw [w_bind]
    refine W.mono h fun o s2 k => ?_
    have go : ∀ {acc s}, I 1 acc s → V (compS f xs acc s) G ⟨⟩ := fun {acc s} k => v_compSL (fun i => I (i + 1)) k (fun i acc s hi q => st (i + 1) acc s (by simp; omega) q) fin
    cases o with
    | none =>
      have q := go (show I 1 acc0 s2 from k)
      rw [V_eq] at q
      exact q
    | some y =>
      have q := go k.2
      rw [V_eq] at q
      show W ((if decide (acc0.length < 4000) = true then compS f xs (addS acc0 y) else die) s2) G
      rw [if_pos (decide_eq_true k.1)]
      exact q
end
end Lw

namespace Lw
open PySem
local macro_rules
  | `(tactic| sizeOf_list_dec) => `(tactic| try simp (dsimp := false) (implicitDefEqProofs := false) only [↓v_sq, ↓br_true, ↓br_false, ↓lk_0, ↓lk_s, ↓sto_0, ↓sto_s, ↓lk_end, ↓sto_end, ↓lk_mid, ↓sto_mid, ↓vv_d, ↓vv_l, ↓vv_k, ↓v_bind, ↓v_ret, ↓v_var, ↓v_con, ↓v_bin, ↓v_neg, ↓v_cmp, ↓v_chn, ↓v_oneE, ↓v_and, ↓v_or, ↓v_not, ↓v_ite, ↓v_tup, ↓v_lst, ↓v_idx, ↓v_dsp, ↓v_repL, ↓v_rev, ↓v_stp, ↓v_rngl, ↓v_rngt, ↓v_sumS, ↓v_fst, ↓v_sl, ↓v_blt, ↓v_call, ↓v_app, ↓v_mth, ↓mthK_pop, ↓mthK_popAt, ↓mthK_rem, ↓mthK_ext, ↓mthK_get, ↓mthK_join, ↓v_fld, ↓v_comp, ↓v_lookT, ↓v_lookS, ↓v_h_non, ↓v_h_bl, ↓v_h_int, ↓v_h_str, ↓v_h_ty, ↓v_h_tup, ↓v_h_dl, ↓v_h_dk, ↓v_h_scr, ↓v_h_lst, ↓v_h_dct, ↓v_h_nr, ↓nh_l, ↓nh_k, ↓nh_i, ↓nh_d, ↓v_h_ref, ↓v_takeT, ↓v_takeS, ↓tk_l, ↓tk_k, ↓v_moveT, ↓mv_l, ↓mv_k, ↓v_moveS, ↓v_argD, ↓v_argL, ↓v_argLt, ↓v_argK, ↓v_argS, ↓ag_l, ↓v_argSt, ↓v_asD, ↓v_stow_d, ↓v_stow_fl, ↓v_stow_fk, ↓v_stow_nil, ↓md_l, ↓v_modS, ↓v_modR, ↓v_int, ↓v_truth, ↓v_looks0, ↓v_looks1, ↓v_evs0, ↓v_evs1, ↓v_hds0, ↓v_hds1, ↓v_avs0, ↓v_avs1, ↓v_part0, ↓v_part1, ↓zipK_2, ↓v_zipE, ↓v_seq, ↓v_rng1, ↓v_rng2, ↓v_enm, ↓v_aVar, ↓v_aTup, ↓v_aIdx, ↓v_setI, ↓v_setS, ↓mdk_k, ↓v_modKS, ↓v_modKR, ↓x_fput, ↓v_as0, ↓v_as1, ↓sqK_n, ↓sqK_b, ↓sqK_c, ↓sqK_r, ↓v_nilS, ↓v_expr, ↓v_asg, ↓v_retE, ↓v_retN, ↓v_forS, ↓v_whileS, ↓v_pass, ↓v_brk, ↓v_cont, ↓v_aug, ↓lpK_n, ↓lpK_c, ↓lpK_b, ↓lpK_r, ↓jnK_n, ↓jnK_b, ↓jnK_c, ↓jnK_r, ↓v_asgH, ↓v_forHS, ↓cpK_s, ↓cpK_n, ↓v_turn, ↓wipe0, ↓wipe1, ↓back0, ↓back1, ↓fin_r, ↓fin_n, ↓cl_fn, ↓x_add, ↓x_sub, ↓x_mul, ↓x_fdiv, ↓x_mod, ↓x_pow, ↓x_addS, ↓x_addT, ↓x_addLL, ↓x_addDL, ↓x_addLD, ↓x_addDD, ↓x_augA, ↓x_augS, ↓x_lt, ↓x_le, ↓x_gt, ↓x_ge, ↓x_eqI, ↓x_neI, ↓x_eqS, ↓x_neS, ↓x_eqN, ↓x_neN, ↓x_eqND, ↓x_neND, ↓x_isN, ↓x_notN, ↓x_isNn, ↓x_isB, ↓x_ntB, ↓x_fmtI, ↓x_fmtS, ↓x_striS, ↓x_isNt, ↓x_isNi, ↓x_ntNn, ↓x_ntNt, ↓x_ntNi, ↓x_ixL, ↓x_ixD, ↓x_ixT, ↓x_at0, ↓x_at1, ↓x_at2, ↓x_at3, ↓x_lenL, ↓x_lenD, ↓x_lenT, ↓x_lenS, ↓x_tupL, ↓x_tupD, ↓x_tupT, ↓x_lstS, ↓x_lstL, ↓x_lstD, ↓x_lstT, ↓x_revL, ↓x_revT, ↓x_revD, ↓x_revS, ↓x_stpL, ↓x_stpD, ↓x_cutT, ↓x_cutL, ↓x_cutD, ↓x_cutS, ↓x_cutX, ↓x_app, ↓x_set0, ↓x_set1, ↓x_set2, ↓x_frzD, ↓x_frzL, ↓x_frzK, ↓x_itsT, ↓x_itsL, ↓x_itsS, ↓x_unpkD, ↓x_unpkL, ↓x_unpk, ↓recv_getK, ↓recv_getD, ↓x_getK, ↓x_getF, ↓x_getK1, ↓x_getF1, ↓recv_pop, ↓recv_popAt, ↓recv_rem, ↓recv_ext, ↓recv_join, ↓x_isi_non_str, ↓x_isi_non_int, ↓x_isi_non_bool, ↓x_isi_non_tuple, ↓x_isi_non_list, ↓x_isi_non_dict, ↓x_isi_bl_str, ↓x_isi_bl_int, ↓x_isi_bl_bool, ↓x_isi_bl_tuple, ↓x_isi_bl_list, ↓x_isi_bl_dict, ↓x_isi_int_str, ↓x_isi_int_int, ↓x_isi_int_bool, ↓x_isi_int_tuple, ↓x_isi_int_list, ↓x_isi_int_dict, ↓x_isi_str_str, ↓x_isi_str_int, ↓x_isi_str_bool, ↓x_isi_str_tuple, ↓x_isi_str_list, ↓x_isi_str_dict, ↓x_isi_tup_str, ↓x_isi_tup_int, ↓x_isi_tup_bool, ↓x_isi_tup_tuple, ↓x_isi_tup_list, ↓x_isi_tup_dict, ↓x_isi_dl_str, ↓x_isi_dl_int, ↓x_isi_dl_bool, ↓x_isi_dl_tuple, ↓x_isi_dl_list, ↓x_isi_dl_dict, ↓x_isi_lst_str, ↓x_isi_lst_int, ↓x_isi_lst_bool, ↓x_isi_lst_tuple, ↓x_isi_lst_list, ↓x_isi_lst_dict, ↓x_isi_dk_str, ↓x_isi_dk_int, ↓x_isi_dk_bool, ↓x_isi_dk_tuple, ↓x_isi_dk_list, ↓x_isi_dk_dict, ↓x_isi_dct_str, ↓x_isi_dct_int, ↓x_isi_dct_bool, ↓x_isi_dct_tuple, ↓x_isi_dct_list, ↓x_isi_dct_dict, ↓isK_i, ↓sf_0, ↓sf_hit, ↓sf_miss, ↓flk_hit, ↓flk_miss, ↓flkN_0, ↓flkN_miss, ↓v_fldOf, ↓v_clsOf, ↓v_setFld, ↓v_publD, ↓v_publL, ↓v_aFld, ↓v_augF, ↓v_omt, ↓newK_n, ↓v_new, ↓cl_mt, ↓cl_ini, ↓x_some, ↓v_slen, ↓kys_0, ↓kys_i, ↓kys_s, ↓v_callD, ↓v_comp2, ↓v_slenC, ↓v_turn2, ↓strG_s, ↓v_turnS, ↓csK_s, ↓csK_n, fresh_var, fresh_con, fresh_bin, fresh_neg, fresh_cmp, fresh_chn, fresh_one, fresh_and, fresh_or, fresh_not, fresh_ite, fresh_tup, fresh_idx, fresh_sl, fresh_rev, fresh_stp, fresh_rngl, fresh_rngt, fresh_sumS, fresh_fst, fresh_call, fresh_blt, fresh_app, fresh_mth, fresh_omt, fresh_new, fresh_fld, fresh_comp, fresh_callD, fresh_repL, fresh_slen, fresh_slenC, fresh_comp2, fresh_lst0, fresh_lst1, fresh_dsp0, fresh_dsp1, dec_self, List.headD_cons, List.tail_cons, List.headD_nil, List.tail_nil, Int.zero_add, Int.toNat_natCast, Int.reduceNeg, Int.reduceAdd, Int.reduceSub, Int.reduceMul, Int.reduceLT, Int.reduceLE, Int.reduceEq, Int.reduceNe, Int.reduceToNat, Int.reducePow, Int.reduceFMod, Int.reduceFDiv, Nat.reduceLT, Nat.reduceLeDiff, Nat.reduceEqDiff, Nat.reduceSub, Nat.reduceMul, Nat.zero_le, Int.reduceAbs, String.reduceEq, String.reduceNe, line_eq, and_self, or_self, true_or, or_true, or_false, false_or, br_true, br_false, Bool.not_true, Bool.not_false, true_and, and_true, decide_true, decide_false, List.length_cons, List.length_nil, List.cons_append, List.nil_append, List.set_cons_zero, List.set_cons_succ, List.getD_cons_zero, List.getD_cons_succ, reduceCtorEq, Nat.zero_add, Nat.reduceAdd, ne_eq, not_false_eq_true, not_true_eq_false, Bool.false_or, Bool.true_or, Bool.or_true, Bool.or_false, Bool.true_and, Bool.and_true, Bool.false_and, Bool.and_false])
local macro_rules
  | `(tactic| array_get_dec) => `(tactic| simp (dsimp := false) (implicitDefEqProofs := false) only [↓v_sq, ↓v_iteS, ↓br_true, ↓br_false, ↓lk_0, ↓lk_s, ↓sto_0, ↓sto_s, ↓lk_end, ↓sto_end, ↓lk_mid, ↓sto_mid, ↓vv_d, ↓vv_l, ↓vv_k, ↓v_bind, ↓v_ret, ↓v_var, ↓v_con, ↓v_bin, ↓v_neg, ↓v_cmp, ↓v_chn, ↓v_oneE, ↓v_and, ↓v_or, ↓v_not, ↓v_ite, ↓v_tup, ↓v_lst, ↓v_idx, ↓v_dsp, ↓v_repL, ↓v_rev, ↓v_stp, ↓v_rngl, ↓v_rngt, ↓v_sumS, ↓v_fst, ↓v_sl, ↓v_blt, ↓v_call, ↓v_app, ↓v_mth, ↓mthK_pop, ↓mthK_popAt, ↓mthK_rem, ↓mthK_ext, ↓mthK_get, ↓mthK_join, ↓v_fld, ↓v_comp, ↓v_lookT, ↓v_lookS, ↓v_h_non, ↓v_h_bl, ↓v_h_int, ↓v_h_str, ↓v_h_ty, ↓v_h_tup, ↓v_h_dl, ↓v_h_dk, ↓v_h_scr, ↓v_h_lst, ↓v_h_dct, ↓v_h_nr, ↓nh_l, ↓nh_k, ↓nh_i, ↓nh_d, ↓v_h_ref, ↓v_takeT, ↓v_takeS, ↓tk_l, ↓tk_k, ↓v_moveT, ↓mv_l, ↓mv_k, ↓v_moveS, ↓v_argD, ↓v_argL, ↓v_argLt, ↓v_argK, ↓v_argS, ↓ag_l, ↓v_argSt, ↓v_asD, ↓v_stow_d, ↓v_stow_fl, ↓v_stow_fk, ↓v_stow_nil, ↓md_l, ↓v_modS, ↓v_modR, ↓v_int, ↓v_truth, ↓v_looks0, ↓v_looks1, ↓v_evs0, ↓v_evs1, ↓v_hds0, ↓v_hds1, ↓v_avs0, ↓v_avs1, ↓v_part0, ↓v_part1, ↓zipK_2, ↓v_zipE, ↓v_seq, ↓v_rng1, ↓v_rng2, ↓v_enm, ↓v_aVar, ↓v_aTup, ↓v_aIdx, ↓v_setI, ↓v_setS, ↓mdk_k, ↓v_modKS, ↓v_modKR, ↓x_fput, ↓v_as0, ↓v_as1, ↓sqK_n, ↓sqK_b, ↓sqK_c, ↓sqK_r, ↓v_nilS, ↓v_expr, ↓v_asg, ↓v_retE, ↓v_retN, ↓v_forS, ↓v_whileS, ↓v_pass, ↓v_brk, ↓v_cont, ↓v_aug, ↓lpK_n, ↓lpK_c, ↓lpK_b, ↓lpK_r, ↓jnK_n, ↓jnK_b, ↓jnK_c, ↓jnK_r, ↓v_asgH, ↓v_forHS, ↓cpK_s, ↓cpK_n, ↓v_turn, ↓wipe0, ↓wipe1, ↓back0, ↓back1, ↓fin_r, ↓fin_n, ↓cl_fn, ↓x_add, ↓x_sub, ↓x_mul, ↓x_fdiv, ↓x_mod, ↓x_pow, ↓x_addS, ↓x_addT, ↓x_addLL, ↓x_addDL, ↓x_addLD, ↓x_addDD, ↓x_augA, ↓x_augS, ↓x_lt, ↓x_le, ↓x_gt, ↓x_ge, ↓x_eqI, ↓x_neI, ↓x_eqS, ↓x_neS, ↓x_eqN, ↓x_neN, ↓x_eqND, ↓x_neND, ↓x_isN, ↓x_notN, ↓x_isNn, ↓x_isB, ↓x_ntB, ↓x_fmtI, ↓x_fmtS, ↓x_striS, ↓x_isNt, ↓x_isNi, ↓x_ntNn, ↓x_ntNt, ↓x_ntNi, ↓x_ixL, ↓x_ixD, ↓x_ixT, ↓x_at0, ↓x_at1, ↓x_at2, ↓x_at3, ↓x_lenL, ↓x_lenD, ↓x_lenT, ↓x_lenS, ↓x_tupL, ↓x_tupD, ↓x_tupT, ↓x_lstS, ↓x_lstL, ↓x_lstD, ↓x_lstT, ↓x_revL, ↓x_revT, ↓x_revD, ↓x_revS, ↓x_stpL, ↓x_stpD, ↓x_cutT, ↓x_cutL, ↓x_cutD, ↓x_cutS, ↓x_cutX, ↓x_app, ↓x_set0, ↓x_set1, ↓x_set2, ↓x_frzD, ↓x_frzL, ↓x_frzK, ↓x_itsT, ↓x_itsL, ↓x_itsS, ↓x_unpkD, ↓x_unpkL, ↓x_unpk, ↓recv_getK, ↓recv_getD, ↓x_getK, ↓x_getF, ↓x_getK1, ↓x_getF1, ↓recv_pop, ↓recv_popAt, ↓recv_rem, ↓recv_ext, ↓recv_join, ↓x_isi_non_str, ↓x_isi_non_int, ↓x_isi_non_bool, ↓x_isi_non_tuple, ↓x_isi_non_list, ↓x_isi_non_dict, ↓x_isi_bl_str, ↓x_isi_bl_int, ↓x_isi_bl_bool, ↓x_isi_bl_tuple, ↓x_isi_bl_list, ↓x_isi_bl_dict, ↓x_isi_int_str, ↓x_isi_int_int, ↓x_isi_int_bool, ↓x_isi_int_tuple, ↓x_isi_int_list, ↓x_isi_int_dict, ↓x_isi_str_str, ↓x_isi_str_int, ↓x_isi_str_bool, ↓x_isi_str_tuple, ↓x_isi_str_list, ↓x_isi_str_dict, ↓x_isi_tup_str, ↓x_isi_tup_int, ↓x_isi_tup_bool, ↓x_isi_tup_tuple, ↓x_isi_tup_list, ↓x_isi_tup_dict, ↓x_isi_dl_str, ↓x_isi_dl_int, ↓x_isi_dl_bool, ↓x_isi_dl_tuple, ↓x_isi_dl_list, ↓x_isi_dl_dict, ↓x_isi_lst_str, ↓x_isi_lst_int, ↓x_isi_lst_bool, ↓x_isi_lst_tuple, ↓x_isi_lst_list, ↓x_isi_lst_dict, ↓x_isi_dk_str, ↓x_isi_dk_int, ↓x_isi_dk_bool, ↓x_isi_dk_tuple, ↓x_isi_dk_list, ↓x_isi_dk_dict, ↓x_isi_dct_str, ↓x_isi_dct_int, ↓x_isi_dct_bool, ↓x_isi_dct_tuple, ↓x_isi_dct_list, ↓x_isi_dct_dict, ↓isK_i, ↓sf_0, ↓sf_hit, ↓sf_miss, ↓flk_hit, ↓flk_miss, ↓flkN_0, ↓flkN_miss, ↓v_fldOf, ↓v_clsOf, ↓v_setFld, ↓v_publD, ↓v_publL, ↓v_aFld, ↓v_augF, ↓v_omt, ↓newK_n, ↓v_new, ↓cl_mt, ↓cl_ini, ↓x_some, ↓v_slen, ↓kys_0, ↓kys_i, ↓kys_s, ↓v_callD, ↓v_comp2, ↓v_slenC, ↓v_turn2, ↓strG_s, ↓v_turnS, ↓csK_s, ↓csK_n, fresh_var, fresh_con, fresh_bin, fresh_neg, fresh_cmp, fresh_chn, fresh_one, fresh_and, fresh_or, fresh_not, fresh_ite, fresh_tup, fresh_idx, fresh_sl, fresh_rev, fresh_stp, fresh_rngl, fresh_rngt, fresh_sumS, fresh_fst, fresh_call, fresh_blt, fresh_app, fresh_mth, fresh_omt, fresh_new, fresh_fld, fresh_comp, fresh_callD, fresh_repL, fresh_slen, fresh_slenC, fresh_comp2, fresh_lst0, fresh_lst1, fresh_dsp0, fresh_dsp1, dec_self, List.headD_cons, List.tail_cons, List.headD_nil, List.tail_nil, Int.zero_add, Int.toNat_natCast, Int.reduceNeg, Int.reduceAdd, Int.reduceSub, Int.reduceMul, Int.reduceLT, Int.reduceLE, Int.reduceEq, Int.reduceNe, Int.reduceToNat, Int.reducePow, Int.reduceFMod, Int.reduceFDiv, Nat.reduceLT, Nat.reduceLeDiff, Nat.reduceEqDiff, Nat.reduceSub, Nat.reduceMul, Nat.zero_le, Int.reduceAbs, String.reduceEq, String.reduceNe, line_eq, and_self, or_self, true_or, or_true, or_false, false_or, br_true, br_false, Bool.not_true, Bool.not_false, true_and, and_true, decide_true, decide_false, List.length_cons, List.length_nil, List.cons_append, List.nil_append, List.set_cons_zero, List.set_cons_succ, List.getD_cons_zero, List.getD_cons_succ, reduceCtorEq, Nat.zero_add, Nat.reduceAdd, ne_eq, not_false_eq_true, not_true_eq_false, Bool.false_or, Bool.true_or, Bool.or_true, Bool.or_false, Bool.true_and, Bool.and_true, Bool.false_and, Bool.and_false])
local macro_rules
  | `(tactic| array_mem_dec) => `(tactic| simp (dsimp := false) (implicitDefEqProofs := false) only [↓br_true, ↓br_false, ↓lk_0, ↓lk_s, ↓sto_0, ↓sto_s, ↓lk_end, ↓sto_end, ↓lk_mid, ↓sto_mid, ↓vv_d, ↓vv_l, ↓vv_k, ↓v_bind, ↓v_ret, ↓v_var, ↓v_con, ↓v_bin, ↓v_neg, ↓v_cmp, ↓v_chn, ↓v_oneE, ↓v_and, ↓v_or, ↓v_not, ↓v_ite, ↓v_tup, ↓v_lst, ↓v_idx, ↓v_dsp, ↓v_repL, ↓v_rev, ↓v_stp, ↓v_rngl, ↓v_rngt, ↓v_sumS, ↓v_fst, ↓v_sl, ↓v_blt, ↓v_call, ↓v_app, ↓v_mth, ↓mthK_pop, ↓mthK_popAt, ↓mthK_rem, ↓mthK_ext, ↓mthK_get, ↓mthK_join, ↓v_fld, ↓v_comp, ↓v_lookT, ↓v_lookS, ↓v_h_non, ↓v_h_bl, ↓v_h_int, ↓v_h_str, ↓v_h_ty, ↓v_h_tup, ↓v_h_dl, ↓v_h_dk, ↓v_h_scr, ↓v_h_lst, ↓v_h_dct, ↓v_h_nr, ↓nh_l, ↓nh_k, ↓nh_i, ↓nh_d, ↓v_h_ref, ↓v_takeT, ↓v_takeS, ↓tk_l, ↓tk_k, ↓v_moveT, ↓mv_l, ↓mv_k, ↓v_moveS, ↓v_argD, ↓v_argL, ↓v_argLt, ↓v_argK, ↓v_argS, ↓ag_l, ↓v_argSt, ↓v_asD, ↓v_stow_d, ↓v_stow_fl, ↓v_stow_fk, ↓v_stow_nil, ↓md_l, ↓v_modS, ↓v_modR, ↓v_int, ↓v_truth, ↓v_looks0, ↓v_looks1, ↓v_evs0, ↓v_evs1, ↓v_hds0, ↓v_hds1, ↓v_avs0, ↓v_avs1, ↓v_part0, ↓v_part1, ↓zipK_2, ↓v_zipE, ↓v_seq, ↓v_rng1, ↓v_rng2, ↓v_enm, ↓v_aVar, ↓v_aTup, ↓v_aIdx, ↓v_setI, ↓v_setS, ↓mdk_k, ↓v_modKS, ↓v_modKR, ↓x_fput, ↓v_as0, ↓v_as1, ↓sqK_n, ↓sqK_b, ↓sqK_c, ↓sqK_r, ↓v_nilS, ↓v_expr, ↓v_asg, ↓v_retE, ↓v_retN, ↓v_forS, ↓v_whileS, ↓v_pass, ↓v_brk, ↓v_cont, ↓v_aug, ↓lpK_n, ↓lpK_c, ↓lpK_b, ↓lpK_r, ↓jnK_n, ↓jnK_b, ↓jnK_c, ↓jnK_r, ↓v_asgH, ↓v_forHS, ↓cpK_s, ↓cpK_n, ↓v_turn, ↓wipe0, ↓wipe1, ↓back0, ↓back1, ↓fin_r, ↓fin_n, ↓cl_fn, ↓x_add, ↓x_sub, ↓x_mul, ↓x_fdiv, ↓x_mod, ↓x_pow, ↓x_addS, ↓x_addT, ↓x_addLL, ↓x_addDL, ↓x_addLD, ↓x_addDD, ↓x_augA, ↓x_augS, ↓x_lt, ↓x_le, ↓x_gt, ↓x_ge, ↓x_eqI, ↓x_neI, ↓x_eqS, ↓x_neS, ↓x_eqN, ↓x_neN, ↓x_eqND, ↓x_neND, ↓x_isN, ↓x_notN, ↓x_isNn, ↓x_isB, ↓x_ntB, ↓x_fmtI, ↓x_fmtS, ↓x_striS, ↓x_isNt, ↓x_isNi, ↓x_ntNn, ↓x_ntNt, ↓x_ntNi, ↓x_ixL, ↓x_ixD, ↓x_ixT, ↓x_at0, ↓x_at1, ↓x_at2, ↓x_at3, ↓x_lenL, ↓x_lenD, ↓x_lenT, ↓x_lenS, ↓x_tupL, ↓x_tupD, ↓x_tupT, ↓x_lstS, ↓x_lstL, ↓x_lstD, ↓x_lstT, ↓x_revL, ↓x_revT, ↓x_revD, ↓x_revS, ↓x_stpL, ↓x_stpD, ↓x_cutT, ↓x_cutL, ↓x_cutD, ↓x_cutS, ↓x_cutX, ↓x_app, ↓x_set0, ↓x_set1, ↓x_set2, ↓x_frzD, ↓x_frzL, ↓x_frzK, ↓x_itsT, ↓x_itsL, ↓x_itsS, ↓x_unpkD, ↓x_unpkL, ↓x_unpk, ↓recv_getK, ↓recv_getD, ↓x_getK, ↓x_getF, ↓x_getK1, ↓x_getF1, ↓recv_pop, ↓recv_popAt, ↓recv_rem, ↓recv_ext, ↓recv_join, ↓x_isi_non_str, ↓x_isi_non_int, ↓x_isi_non_bool, ↓x_isi_non_tuple, ↓x_isi_non_list, ↓x_isi_non_dict, ↓x_isi_bl_str, ↓x_isi_bl_int, ↓x_isi_bl_bool, ↓x_isi_bl_tuple, ↓x_isi_bl_list, ↓x_isi_bl_dict, ↓x_isi_int_str, ↓x_isi_int_int, ↓x_isi_int_bool, ↓x_isi_int_tuple, ↓x_isi_int_list, ↓x_isi_int_dict, ↓x_isi_str_str, ↓x_isi_str_int, ↓x_isi_str_bool, ↓x_isi_str_tuple, ↓x_isi_str_list, ↓x_isi_str_dict, ↓x_isi_tup_str, ↓x_isi_tup_int, ↓x_isi_tup_bool, ↓x_isi_tup_tuple, ↓x_isi_tup_list, ↓x_isi_tup_dict, ↓x_isi_dl_str, ↓x_isi_dl_int, ↓x_isi_dl_bool, ↓x_isi_dl_tuple, ↓x_isi_dl_list, ↓x_isi_dl_dict, ↓x_isi_lst_str, ↓x_isi_lst_int, ↓x_isi_lst_bool, ↓x_isi_lst_tuple, ↓x_isi_lst_list, ↓x_isi_lst_dict, ↓x_isi_dk_str, ↓x_isi_dk_int, ↓x_isi_dk_bool, ↓x_isi_dk_tuple, ↓x_isi_dk_list, ↓x_isi_dk_dict, ↓x_isi_dct_str, ↓x_isi_dct_int, ↓x_isi_dct_bool, ↓x_isi_dct_tuple, ↓x_isi_dct_list, ↓x_isi_dct_dict, ↓isK_i, ↓sf_0, ↓sf_hit, ↓sf_miss, ↓flk_hit, ↓flk_miss, ↓flkN_0, ↓flkN_miss, ↓v_fldOf, ↓v_clsOf, ↓v_setFld, ↓v_publD, ↓v_publL, ↓v_aFld, ↓v_augF, ↓v_omt, ↓newK_n, ↓v_new, ↓cl_mt, ↓cl_ini, ↓x_some, ↓v_slen, ↓kys_0, ↓kys_i, ↓kys_s, ↓v_callD, ↓v_comp2, ↓v_slenC, ↓v_turn2, ↓strG_s, ↓v_turnS, ↓csK_s, ↓csK_n, fresh_var, fresh_con, fresh_bin, fresh_neg, fresh_cmp, fresh_chn, fresh_one, fresh_and, fresh_or, fresh_not, fresh_ite, fresh_tup, fresh_idx, fresh_sl, fresh_rev, fresh_stp, fresh_rngl, fresh_rngt, fresh_sumS, fresh_fst, fresh_call, fresh_blt, fresh_app, fresh_mth, fresh_omt, fresh_new, fresh_fld, fresh_comp, fresh_callD, fresh_repL, fresh_slen, fresh_slenC, fresh_comp2, fresh_lst0, fresh_lst1, fresh_dsp0, fresh_dsp1, dec_self, List.headD_cons, List.tail_cons, List.headD_nil, List.tail_nil, Int.zero_add, Int.toNat_natCast, Int.reduceNeg, Int.reduceAdd, Int.reduceSub, Int.reduceMul, Int.reduceLT, Int.reduceLE, Int.reduceEq, Int.reduceNe, Int.reduceToNat, Int.reducePow, Int.reduceFMod, Int.reduceFDiv, Nat.reduceLT, Nat.reduceLeDiff, Nat.reduceEqDiff, Nat.reduceSub, Nat.reduceMul, Nat.zero_le, Int.reduceAbs, String.reduceEq, String.reduceNe, line_eq, and_self, or_self, true_or, or_true, or_false, false_or, br_true, br_false, Bool.not_true, Bool.not_false, true_and, and_true, decide_true, decide_false, List.length_cons, List.length_nil, List.cons_append, List.nil_append, List.set_cons_zero, List.set_cons_succ, List.getD_cons_zero, List.getD_cons_succ, reduceCtorEq, Nat.zero_add, Nat.reduceAdd, ne_eq, not_false_eq_true, not_true_eq_false, Bool.false_or, Bool.true_or, Bool.or_true, Bool.or_false, Bool.true_and, Bool.and_true, Bool.false_and, Bool.and_false])
section
set_option maxHeartbeats 4000000
/-! Lw, part 19: the pen -/
open PySem
def bWell : S := (.sq (.asg (.var 1) (.idx (.var 0) (.con (.int 1)))) (.sq (.asg (.idx (.var 0) (.con (.int 1))) (.bin .add (.var 1) (.con (.int 1)))) (.sq (.asg (.var 2) (.bin .add (.bin .mul (.var 1) (.con (.int 977))) (.con (.int 7)))) (.sq (.ite (.cmp .ne (.idx (.var 0) (.con (.int 0))) (.lst .nil)) (.sq (.asg (.var 2) (.idx (.idx (.var 0) (.con (.int 0))) (.bin .mod (.var 1) (.blt .len (.cons (.idx (.var 0) (.con (.int 0))) .nil))))) .nil) .nil) (.sq (.ite (.and (.cmp .lt (.var 1) (.blt .len (.cons (.idx (.var 0) (.con (.int 0))) .nil))) (.one (.cmp .ge (.var 2) (.bin .pow (.con (.int 10)) (.con (.int 18)))))) (.sq (.ret (.var 2)) .nil) .nil) (.sq (.asg (.var 3) (.bin .mod (.bin .add (.bin .add (.bin .mod (.var 2) (.con (.int 2147483549))) (.bin .mul (.var 1) (.con (.int 52391)))) (.con (.int 29))) (.con (.int 2147483549)))) (.sq (.asg (.var 4) (.bin .mod (.bin .add (.bin .add (.bin .mul (.var 3) (.var 3)) (.bin .mul (.var 1) (.con (.int 30011)))) (.con (.int 7))) (.con (.int 2147483543)))) (.sq (.asg (.var 5) (.bin .mod (.bin .add (.bin .add (.bin .mul (.var 4) (.var 4)) (.var 3)) (.bin .mul (.var 1) (.var 1))) (.con (.int 2147483497)))) (.sq (.ret (.bin .add (.bin .mul (.bin .add (.bin .mul (.var 5) (.con (.int 2147483549))) (.var 4)) (.con (.int 2147483543))) (.var 3))) .nil)))))))))
def dWell : Df := ⟨1, 6, [true], bWell⟩
def bDraw (w : Nat) : S := (.sq (.ite (.cmp .lt (.idx (.var 0) (.con (.int 2))) (.var 1)) (.sq (.asg (.idx (.var 0) (.con (.int 2))) (.call w (.cons (.var 0) .nil))) .nil) .nil) (.sq (.asg (.var 2) (.bin .mod (.idx (.var 0) (.con (.int 2))) (.var 1))) (.sq (.asg (.idx (.var 0) (.con (.int 2))) (.bin .fdiv (.idx (.var 0) (.con (.int 2))) (.var 1))) (.sq (.ret (.var 2)) .nil))))
def dDraw (w : Nat) : Df := ⟨2, 3, [true, false], bDraw w⟩
variable {tb : Tab} {wf n : Nat} {w d : Nat} {G : O → List O → Prop} {h : List O} {b : Nat}
theorem dk_int {k : Nat} {ns : List Int} : ∀ x ∈ ns.map D.int, dk k x := fun x hx => by
  obtain ⟨i, _, rfl⟩ := List.mem_map.mp hx
  cases k <;> trivial
def pen (ns : List Int) (i v : Int) : O := .lst [.lst (ns.map .int), .int i, .int v]
theorem fm_pos {a b : Int} (hb : 0 < b) : 0 ≤ a.fmod b ∧ a.fmod b < b := ⟨Int.fmod_nonneg_of_pos _ hb, Int.fmod_lt_of_pos _ hb⟩
theorem atI_mod {ns : List Int} {i : Int} (h : ns ≠ []) : ∃ z, L2.atI (ns.map D.int) (i.fmod ((ns.map D.int).length : Nat)) = some (.int z) := by
  rw [List.length_map]
  have hp : 0 < (ns.length : Int) := by
    cases ns with
    | nil => exact absurd rfl h
    | cons a r => simp
  have h1 : 0 ≤ i.fmod ns.length := Int.fmod_nonneg_of_pos _ hp
  have h2 : i.fmod ns.length < ns.length := Int.fmod_lt_of_pos _ hp
  generalize i.fmod ns.length = j at h1 h2
  have hj : j.toNat < ns.length := by omega
  refine ⟨ns[j.toNat], ?_⟩
  unfold L2.atI L2.ixN
  rw [if_pos h1, List.length_map, if_pos h2]
  simp [hj]
def S.tl : S → S | .sq _ r => r | s => s
theorem well_ok (hw : tb.defs[w]? = some dWell) {ns : List Int} {i v : Int} {r : List O} (h2 : 0 ≤ i) (h3 : i ≤ 1000000000000)
    (k : ∀ v', G (.d (.int v')) (pen ns (i + 1) v :: r)) : Vc (run tb wf (n + 1) w [.d (.ref 0)] (pen ns i v :: r)) G ⟨⟩ := by
  refine vc_run hw rfl ?_
  show V (ex _ _ _ bWell ⟨[.d (.ref 0), .hole, .hole, .hole, .hole, .hole], .lst [.lst (ns.map .int), .int i, .int v] :: r⟩) _ _
  unfold bWell
  sizeOf_list_dec
  refine v_meet (fun s => ∃ cell, s = ⟨[.d (.ref 0), .d (.int i), .d (.int cell), .hole, .hole, .hole], .lst [.lst (ns.map .int), .int (i + 1), .int v] :: r⟩) ?_ ?_
  · array_get_dec
    rw [x_neND dk_int]
    sizeOf_list_dec
    refine br (fun hne => ?_) (fun _ => ?_)
    · have hn : ns ≠ [] := by
        intro e; subst e; cases hne
      obtain ⟨z, hz⟩ := atI_mod (i := i) hn
      sizeOf_list_dec
      refine ⟨?_, .int z, hz, ?_⟩
      · rw [List.length_map]
        have := List.length_pos_iff.mpr hn
        omega
      · sizeOf_list_dec
        exact ⟨_, rfl⟩
    · sizeOf_list_dec
      exact ⟨_, rfl⟩
  rintro _ ⟨cell, rfl⟩
  sizeOf_list_dec
  refine v_meet (fun s => s = ⟨[.d (.ref 0), .d (.int i), .d (.int cell), .hole, .hole, .hole], .lst [.lst (ns.map .int), .int (i + 1), .int v] :: r⟩) ?_ ?_
  · array_get_dec
    refine br (fun _ => ?_) (fun _ => ?_)
    · sizeOf_list_dec
      refine br (fun _ => ?_) (fun _ => ?_)
      · sizeOf_list_dec
        exact k _
      · sizeOf_list_dec
    · sizeOf_list_dec
  rintro _ rfl
  sizeOf_list_dec
  have l := fm_pos (a := cell.fmod 2147483549 + i * 52391 + 29) (b := 2147483549) (by decide)
  generalize hl : ((cell.fmod 2147483549 + i * 52391 + 29).fmod 2147483549) = low at l ⊢
  have m := fm_pos (a := low * low + i * 30011 + 7) (b := 2147483543) (by decide)
  generalize hm : ((low * low + i * 30011 + 7).fmod 2147483543) = mid at m ⊢
  exact ⟨by omega, by omega, by omega, k _⟩
/-- a digit below m is drawn -/
theorem draw_ok (hw : tb.defs[w]? = some dWell) (hd : tb.defs[d]? = some (dDraw w)) {m : Int} (hm : 0 < m) (hm2 : m < 1000000000) {ns : List Int} {i v : Int} {r : List O} (h2 : 0 ≤ i) (h3 : i ≤ 1000000000000)
    (k : ∀ i' v' z, i ≤ i' → i' ≤ i + 1 → 0 ≤ z → z < m → G (.d (.int z)) (pen ns i' v' :: r)) : Vc (run tb wf (n + 2) d [.d (.ref 0), .d (.int m)] (pen ns i v :: r)) G ⟨⟩ := by
  refine vc_run hd rfl ?_
  have flw : tb.fl w = [true] := by unfold Tab.fl; rw [hw]; rfl
  show V (ex _ _ _ (bDraw w) ⟨[.d (.ref 0), .d (.int m), .hole], .lst [.lst (ns.map .int), .int i, .int v] :: r⟩) _ _
  unfold bDraw
  sizeOf_list_dec
  refine v_meet (fun s => ∃ i' v', i ≤ i' ∧ i' ≤ i + 1 ∧ s = ⟨[.d (.ref 0), .d (.int m), .hole], .lst [.lst (ns.map .int), .int i', .int v'] :: r⟩) ?_ ?_
  · array_get_dec
    refine br (fun _ => ?_) (fun _ => ?_)
    · sizeOf_list_dec
      refine well_ok hw h2 h3 fun v' => ?_
      unfold pen
      sizeOf_list_dec
      exact ⟨_, _, by omega, by omega, rfl⟩
    · sizeOf_list_dec
      exact ⟨_, _, by omega, by omega, rfl⟩
  rintro _ ⟨i', v', h4, h5, rfl⟩
  sizeOf_list_dec
  have f := fm_pos (a := v') hm
  exact ⟨by omega, ⟨by omega, by omega, by omega⟩, k _ _ _ h4 h5 f.1 f.2⟩
end
section
set_option maxHeartbeats 4000000
/-! Lw, part 20: the pen's letters, words, mixed rows -/
open PySem
variable {tb : Tab} {wf n : Nat} {w d : Nat} {G : O → List O → Prop} {h : List O} {b : Nat}
/-- a letter, a text, by codes -/
def ltr (c : Nat) : Str := ⟨#[c]⟩
def sgD (c : Nat) : D := .str (ltr c)
def tx (cs : List Nat) : Str := ⟨cs.toArray⟩
def isL (c : Nat) : Prop := 97 ≤ c ∧ c ≤ 122
def alpha : List Nat := (List.range 26).map (97 + ·)
theorem fl_of {d : Nat} {x : Df} (h : tb.defs[d]? = some x) : tb.fl d = x.fl := by unfold Tab.fl; rw [h]
theorem lk_at {α : Type} {a : α} {l : List α} {n : Nat} {G : α → Prop} {t : Tag G} (h : l[n]? = some a) : lk l n G t = G a := by rw [lk_get, h]
theorem sto_at {α : Type} {o : α} {l : List α} {n : Nat} {G : List α → Prop} {t : Tag G} (h : n < l.length) : sto l n o G t = G (l.set n o) := by
  rw [sto_get]; exact propext ⟨fun k => k.2, fun k => ⟨h, k⟩⟩
theorem x_popAt {xs : List D} {z : Int} {K : List D × D → Prop} (h0 : 0 ≤ z) (h1 : z < (xs.length : Nat)) (hs : xs.length < 1000000) (k : K (xs.eraseIdx z.toNat, xs[z.toNat]'(by omega))) : X (mPopAt xs [.d (.int z)]) K ⟨⟩ := by
  have hz : z.toNat < xs.length := by omega
  refine ⟨_, ?_, k⟩
  have e : seqIndex? z xs.length = some z.toNat := by
    unfold seqIndex?
    simp
    omega
  unfold mPopAt
  have c : (decide (-(2 ^ 63) ≤ z) && decide (z < 2 ^ 63)) = true := by
    simp
    omega
  simp only [c, if_true, e, List.getElem?_eq_getElem hz]
theorem alpha_signs : signs (Str.ofString "abcdefghijklmnopqrstuvwxyz") = alpha.map sgD := by
  have : (Str.ofString "abcdefghijklmnopqrstuvwxyz").cps.toList = alpha := by decide +kernel
  unfold signs
  rw [this]
  rfl
theorem alpha_len : (Str.ofString "abcdefghijklmnopqrstuvwxyz").length ≤ 1000000 := by decide +kernel
theorem alpha_nodup : alpha.Nodup := by decide +kernel
theorem alpha_is {c : Nat} (h : c ∈ alpha) : isL c := by
  obtain ⟨i, hi, rfl⟩ := List.mem_map.mp h
  have := List.mem_range.mp hi
  unfold isL; omega
theorem eraseIdx_perm {α : Type} : ∀ {l : List α} {i : Nat} (h : i < l.length), (l[i] :: l.eraseIdx i).Perm l
  | a :: l, 0, _ => .refl _
  | a :: l, i + 1, h => by
    simp only [List.getElem_cons_succ, List.eraseIdx_cons_succ]
    exact (List.Perm.swap a _ _).trans ((eraseIdx_perm (by simpa using h)).cons a)
theorem eraseIdx_map' {α β : Type} {f : α → β} : ∀ {l : List α} {i : Nat}, (l.map f).eraseIdx i = (l.eraseIdx i).map f
  | [], _ => rfl
  | a :: l, 0 => rfl
  | a :: l, i + 1 => by simp only [List.map_cons, List.eraseIdx_cons_succ, eraseIdx_map' (l := l)]
theorem perm_map_back {α β : Type} {f : α → β} {g : β → α} (hg : ∀ a, g (f a) = a) {l : List β} {cs : List α} (p : l.Perm (cs.map f)) : ∃ cs' : List α, cs'.Perm cs ∧ l = cs'.map f := by
  refine ⟨l.map g, ?_, ?_⟩
  · have := p.map g
    rwa [List.map_map, show g ∘ f = id from funext hg, List.map_id] at this
  · rw [List.map_map]
    have : ∀ x ∈ l, (f ∘ g) x = x := fun x hx => by
      obtain ⟨a, _, rfl⟩ := List.mem_map.mp (p.mem_iff.mp hx)
      show f (g (f a)) = _
      rw [hg]
    rw [List.map_congr_left this, List.map_id']
theorem strsOf_map (f : Nat → Str) : ∀ cs : List Nat, strsOf (cs.map fun c => D.str (f c)) = some (cs.map f)
  | [] => rfl
  | c :: cs => by simp [strsOf, strsOf_map f cs]
theorem sorted_ok {cs : List Nat} (h : cs.length < 64) : ∃ cs' : List Nat, cs'.Perm cs ∧ bltop .sorted [.lst (cs.map sgD)] = some (.lst (cs'.map sgD)) := by
  have p := List.mergeSort_perm (cs.map ltr) strLe
  obtain ⟨cs', p', e⟩ := perm_map_back (f := ltr) (g := fun x => x.cps.getD 0 0) (fun a => rfl) p
  refine ⟨cs', p', ?_⟩
  simp only [bltop, bSorted, lv]
  rw [show cs.map sgD = cs.map (fun c => D.str (ltr c)) from rfl, strsOf_map]
  simp only [List.length_map, h, decide_true, if_true, e, List.map_map]
  rfl
def bLetters (d : Nat) : S := (.sq (.asg (.var 2) (.blt .lst (.cons (.con (.str "abcdefghijklmnopqrstuvwxyz")) .nil))) (.sq (.ret (.blt .sorted (.cons (.comp (.mth .popAt (.var 2) (.cons (.call d (.cons (.var 0) (.cons (.blt .len (.cons (.var 2) .nil)) .nil))) .nil)) (.var 3) (.rng1 (.var 1)) (.con (.bl true)) [3]) .nil))) .nil))
def dLetters (d : Nat) : Df := ⟨2, 4, [true, false], bLetters d⟩
theorem letters_ok {l : Nat} (hw : tb.defs[w]? = some dWell) (hd : tb.defs[d]? = some (dDraw w)) (hl : tb.defs[l]? = some (dLetters d)) {tl : Nat} (ht : tl ≤ 26) {ns : List Int} {i v : Int} {r : List O} (h2 : 0 ≤ i) (h3 : i ≤ 999999000000)
    (k : ∀ (i' v' : Int) (cs : List Nat), i ≤ i' → i' ≤ i + tl → cs.length = tl → (∀ c ∈ cs, isL c) → cs.Nodup → G (.lst (cs.map sgD)) (pen ns i' v' :: r)) : Vc (run tb wf (n + 3) l [.d (.ref 0), .d (.int tl)] (pen ns i v :: r)) G ⟨⟩ := by
  refine vc_run hl rfl ?_
  show V (ex _ _ _ (bLetters d) ⟨[.d (.ref 0), .d (.int tl), .hole, .hole], pen ns i v :: r⟩) _ _
  unfold bLetters
  have hsg := alpha_signs
  have hsl := alpha_len
  generalize Str.ofString "abcdefghijklmnopqrstuvwxyz" = S at hsg hsl ⊢
  sizeOf_list_dec
  rw [hsg]
  refine ⟨hsl, ?_, ?_⟩
  · simp [rngOk]; omega
  refine v_compR (fun j acc s => ∃ (cs pool : List Nat) (i' v' : Int) (o : O), acc = cs.map sgD ∧ (cs ++ pool).Perm alpha ∧ cs.length = j ∧ i ≤ i' ∧ i' ≤ i + j ∧ s = ⟨[.d (.ref 0), .d (.int tl), .lst (pool.map sgD), o], pen ns i' v' :: r⟩) ?_ ?_ ?_
  · exact ⟨[], alpha, i, v, _, rfl, .refl _, rfl, by omega, by omega, rfl⟩
  · rintro j acc s hj ⟨cs, pool, i', v', o, rfl, p, hc, h4, h5, rfl⟩
    have hlen := p.length_eq
    rw [List.length_append, show alpha.length = 26 from rfl] at hlen
    sizeOf_list_dec
    refine draw_ok hw hd (by rw [List.length_map]; omega) (by rw [List.length_map]; omega) (by omega) (by omega) fun i2 v2 z h6 h7 h8 h9 => ?_
    sizeOf_list_dec
    refine x_popAt h8 h9 (by rw [List.length_map]; omega) ?_
    sizeOf_list_dec
    rw [List.length_map] at h9
    have hz : z.toNat < pool.length := by omega
    refine ⟨by rw [List.length_map]; unfold sizeLine; omega, cs ++ [pool[z.toNat]], pool.eraseIdx z.toNat, i2, v2, .d (.int j), ?_, ?_, ?_, ?_, ?_, ?_⟩
    · simp [sgD]
    · refine List.Perm.trans ?_ p
      rw [List.append_assoc]
      exact (eraseIdx_perm hz).append_left cs
    · simp [hc]
    · omega
    · omega
    · rw [eraseIdx_map']
  · rintro acc s ⟨cs, pool, i', v', o, rfl, p, hc, h4, h5, rfl⟩
    sizeOf_list_dec
    obtain ⟨cs', p', e⟩ := sorted_ok (cs := cs) (by omega)
    refine ⟨_, e, ?_⟩
    sizeOf_list_dec
    refine k _ _ _ h4 (by omega) (by rw [p'.length_eq, hc]) ?_ ?_
    · intro c hc
      exact alpha_is (p.mem_iff.mp (List.mem_append_left _ (p'.mem_iff.mp hc)))
    · exact p'.nodup_iff.mpr ((p.nodup_iff.mpr alpha_nodup).sublist (List.sublist_append_left _ _))
theorem atI_ok {xs : List D} {z : Int} {K : D → Prop} (h0 : 0 ≤ z) (h1 : z < xs.length) (k : K (xs[z.toNat]'(by omega))) : X (L2.atI xs z) K ⟨⟩ := ⟨_, at_ok h0 h1, k⟩
theorem join_ltr : ∀ cs : List Nat, Str.join (Str.ofString "") (cs.map ltr) = tx cs
  | [] => rfl
  | [x] => rfl
  | x :: y :: r => by
    rw [List.map_cons, List.map_cons, Str.join, ← List.map_cons, join_ltr (y :: r)]
    · rw [show Str.ofString "" = ⟨#[]⟩ from by decide +kernel]
      show (⟨(#[x] ++ #[]) ++ (y :: r).toArray⟩ : Str) = ⟨(x :: y :: r).toArray⟩
      simp
    · simp
theorem x_joinE {cs : List Nat} {K : O → Prop} (h : cs.length ≤ 16777216) (k : K (.d (.str (tx cs)))) : X (mJoin (.d (.str (Str.ofString ""))) [.lst (cs.map sgD)]) K ⟨⟩ := by
  refine ⟨_, ?_, k⟩
  unfold mJoin
  simp only [sv, lv]
  rw [show cs.map sgD = cs.map (fun c => D.str (ltr c)) from rfl, strsOf_map]
  dsimp only
  have e : ((cs.map ltr).map (·.length)).sum = cs.length := by
    rw [List.map_map]
    have : ((fun x => x.length) ∘ ltr : Nat → Nat) = fun _ => 1 := rfl
    rw [this]
    clear k h
    induction cs with
    | nil => rfl
    | cons c r ih => rw [List.map_cons, List.sum_cons, ih, List.length_cons]; omega
  rw [e, join_ltr, show (Str.ofString "").length = 0 from by decide +kernel, Nat.mul_zero, Nat.add_zero, if_pos (decide_eq_true h)]
def bWord (d : Nat) : S := (.sq (.ret (.mth .join (.con (.str "")) (.cons (.comp (.idx (.var 1) (.call d (.cons (.var 0) (.cons (.blt .len (.cons (.var 1) .nil)) .nil)))) (.var 3) (.rng1 (.call d (.cons (.var 0) (.cons (.bin .add (.var 2) (.con (.int 1))) .nil)))) (.con (.bl true)) [3]) .nil))) .nil)
def dWord (d : Nat) : Df := ⟨3, 4, [true, false, false], bWord d⟩
theorem word_ok {l : Nat} (hw : tb.defs[w]? = some dWell) (hd : tb.defs[d]? = some (dDraw w)) (hl : tb.defs[l]? = some (dWord d)) {pool : List Nat} (hp : pool ≠ []) (hp2 : pool.length ≤ 1000) {m : Nat} (hm : m ≤ 1000) {ns : List Int} {i v : Int} {r : List O} (h2 : 0 ≤ i) (h3 : i ≤ 999999000000)
    (k : ∀ (i' v' : Int) (cs : List Nat), i ≤ i' → i' ≤ i + m + 1 → cs.length ≤ m → (∀ c ∈ cs, c ∈ pool) → G (.d (.str (tx cs))) (pen ns i' v' :: r)) : Vc (run tb wf (n + 3) l [.d (.ref 0), .d (.lst (pool.map sgD)), .d (.int m)] (pen ns i v :: r)) G ⟨⟩ := by
  refine vc_run hl rfl ?_
  show V (ex _ _ _ (bWord d) ⟨[.d (.ref 0), .d (.lst (pool.map sgD)), .d (.int m), .hole], pen ns i v :: r⟩) _ _
  unfold bWord
  have hpl := List.length_pos_iff.mpr hp
  sizeOf_list_dec
  refine draw_ok hw hd (by omega) (by omega) h2 (by omega) fun i2 v2 z h6 h7 h8 h9 => ?_
  sizeOf_list_dec
  refine ⟨by simp [rngOk]; omega, ?_⟩
  refine v_compR (fun j acc s => ∃ (cs : List Nat) (i' v' : Int) (o : O), acc = cs.map sgD ∧ (∀ c ∈ cs, c ∈ pool) ∧ cs.length = j ∧ i ≤ i' ∧ i' ≤ i + 1 + j ∧ s = ⟨[.d (.ref 0), .d (.lst (pool.map sgD)), .d (.int m), o], pen ns i' v' :: r⟩) ?_ ?_ ?_
  · exact ⟨[], i2, v2, _, rfl, by simp, rfl, by omega, by omega, rfl⟩
  · rintro j acc s hj ⟨cs, i', v', o, rfl, hc, hcl, h4, h5, rfl⟩
    sizeOf_list_dec
    refine draw_ok hw hd (by rw [List.length_map]; omega) (by rw [List.length_map]; omega) (by omega) (by omega) fun i3 v3 z3 h10 h11 h12 h13 => ?_
    sizeOf_list_dec
    refine atI_ok h12 h13 ?_
    rw [List.length_map] at h13
    have hz : z3.toNat < pool.length := by omega
    rw [List.getElem_map]
    refine ⟨by unfold sizeLine; rw [List.length_map]; omega, cs ++ [pool[z3.toNat]], i3, v3, _, by simp [sgD], ?_, by simp [hcl], by omega, by omega, rfl⟩
    intro c hc2
    rcases List.mem_append.mp hc2 with h | h
    · exact hc c h
    · rw [List.mem_singleton.mp h]; exact List.getElem_mem _
  · rintro acc s ⟨cs, i', v', o, rfl, hc, hcl, h4, h5, rfl⟩
    sizeOf_list_dec
    refine x_joinE (by omega) ?_
    sizeOf_list_dec
    exact k _ _ _ h4 (by omega) (by omega) hc
end
section
set_option maxHeartbeats 4000000
/-! Lw, part 21: mixed rows, rows, machines -/
open PySem
variable {tb : Tab} {wf n : Nat} {w d : Nat} {G : O → List O → Prop} {h : List O} {b : Nat}
inductive It where | s (c : Nat) | k (d : Nat)
  deriving DecidableEq
def itD : It → D | .s c => sgD c | .k d => .int d
def drs (its : List It) : List Nat := its.filterMap fun | .k d => some d | .s _ => none
def lts (its : List It) : List Nat := its.filterMap fun | .k _ => none | .s c => some c
def natD (d : Nat) : D := .int d
def rowD (its : List It) : D := .tup (its.map itD)
theorem dk_nat {k : Nat} {ns : List Nat} : ∀ x ∈ ns.map natD, dk k x := fun x hx => by
  obtain ⟨i, _, rfl⟩ := List.mem_map.mp hx
  cases k <;> trivial
theorem x_atP {P : D → Prop} {xs : List D} {i : Int} {K : D → Prop} (h0 : 0 ≤ i) (h1 : i < xs.length) (hp : ∀ x ∈ xs, P x) (k : ∀ x, P x → K x) : X (L2.atI xs i) K ⟨⟩ := x_atM h0 h1 fun x hx => k x (hp x hx)
/-- a list of drawers: data, or an object of its own -/
def Src (r : List O) (x : D) (ks : List Nat) : Prop := x = .lst (ks.map natD) ∨ ∃ q, x = .ref (q + 1) ∧ r[q]? = some (.lst (ks.map natD))
theorem src_ok {r : List O} {x : D} {ks : List Nat} (hx : Src r x ks) : ∃ o : O, (∀ (e : List O) (p : O) (G : O → St → Prop) (t : Tag G), V (hdOf (.d x) ⟨e, p :: r⟩) G t = G o ⟨e, p :: r⟩) ∧
    (∀ (K : O → Prop) (t : Tag K), X (bltop .lst [o]) K t = K (.lst (ks.map natD))) ∧ (∀ (K : O → Prop) (t : Tag K), X (bltop .len [o]) K t = K (.d (.int (ks.length : Nat)))) := by
  rcases hx with rfl | ⟨q, rfl, hq⟩
  · refine ⟨.d (.lst (ks.map natD)), fun e p G t => v_h_dl, fun K t => x_lstD, fun K t => ?_⟩
    rw [x_lenD, List.length_map]
  · refine ⟨.lst (ks.map natD), fun e p G t => ?_, fun K t => x_lstL, fun K t => ?_⟩
    · sizeOf_list_dec
      rw [lk_at hq]
      sizeOf_list_dec
    · rw [x_lenL, List.length_map]
theorem drs_app {a b : List It} : drs (a ++ b) = drs a ++ drs b := by simp [drs]
theorem lts_app {a b : List It} : lts (a ++ b) = lts a ++ lts b := by simp [lts]
theorem atI_mapD {α : Type} {f : α → D} {xs : List α} {z : Int} {K : D → Prop} (h0 : 0 ≤ z) (h1 : z < xs.length) (k : K (f (xs[z.toNat]'(by omega)))) : X (L2.atI (xs.map f) z) K ⟨⟩ := by
  refine atI_ok h0 (by rwa [List.length_map]) ?_
  rw [List.getElem_map]
  exact k
theorem popAt_map {α : Type} {f : α → D} {xs : List α} {z : Int} {K : List D × D → Prop} (h0 : 0 ≤ z) (h1 : z < xs.length) (hs : xs.length < 1000000) (k : K ((xs.eraseIdx z.toNat).map f, f (xs[z.toNat]'(by omega)))) : X (mPopAt (xs.map f) [.d (.int z)]) K ⟨⟩ := by
  refine x_popAt h0 (by rwa [List.length_map]) (by rwa [List.length_map]) ?_
  rw [List.getElem_map, eraseIdx_map']
  exact k
def bMix (d : Nat) : S := (.sq (.asg (.var 3) (.blt .lst (.cons (.var 1) .nil))) (.sq (.asg (.var 4) (.lst .nil)) (.sq (.for (.var 5) (.rng1 (.bin .add (.blt .len (.cons (.var 1) .nil)) (.con (.int 1)))) (.sq (.for (.var 6) (.rng1 (.idx (.lst (.cons (.con (.int 0)) (.cons (.con (.int 0)) (.cons (.con (.int 0)) (.cons (.con (.int 1)) (.cons (.con (.int 1)) (.cons (.con (.int 2)) .nil))))))) (.call d (.cons (.var 0) (.cons (.con (.int 6)) .nil))))) (.sq (.expr (.app (.var 4) (.idx (.var 2) (.call d (.cons (.var 0) (.cons (.blt .len (.cons (.var 2) .nil)) .nil)))))) .nil)) (.sq (.ite (.cmp .ne (.var 3) (.lst .nil)) (.sq (.expr (.app (.var 4) (.mth .popAt (.var 3) (.cons (.call d (.cons (.var 0) (.cons (.blt .len (.cons (.var 3) .nil)) .nil))) .nil)))) .nil) .nil) .nil))) (.sq (.ret (.blt .tup (.cons (.var 4) .nil))) .nil))))
def dMix (d : Nat) : Df := ⟨3, 7, [true, false, false], bMix d⟩
theorem mix_ok {l : Nat} (hw : tb.defs[w]? = some dWell) (hd : tb.defs[d]? = some (dDraw w)) (hl : tb.defs[l]? = some (dMix d)) {pool ks : List Nat} (hp : pool ≠ []) (hp2 : pool.length ≤ 1000) (hk : ks.length ≤ 1000) {ns : List Int} {i v : Int} {r : List O} {x : D} (hx : Src r x ks) (h2 : 0 ≤ i) (h3 : i ≤ 999998000000)
    (k : ∀ (i' v' : Int) (its : List It), i ≤ i' → i' ≤ i + 4 * (ks.length + 1) → (drs its).Perm ks → (lts its).length ≤ 2 * (ks.length + 1) → (∀ c ∈ lts its, c ∈ pool) → G (.d (rowD its)) (pen ns i' v' :: r)) : Vc (run tb wf (n + 3) l [.d (.ref 0), .d x, .d (.lst (pool.map sgD))] (pen ns i v :: r)) G ⟨⟩ := by
  refine vc_run hl rfl ?_
  show V (ex _ _ _ (bMix d) ⟨[.d (.ref 0), .d x, .d (.lst (pool.map sgD)), .hole, .hole, .hole, .hole], pen ns i v :: r⟩) _ _
  obtain ⟨o, key, ol, on⟩ := src_ok hx
  have hpl := List.length_pos_iff.mpr hp
  unfold bMix
  sizeOf_list_dec
  rw [key]
  sizeOf_list_dec
  rw [ol]
  sizeOf_list_dec
  rw [key]
  sizeOf_list_dec
  rw [on]
  sizeOf_list_dec
  refine ⟨by simp [rngOk]; omega, ?_⟩
  rw [show ((ks.length : Int) + 1).toNat = ks.length + 1 from by omega]
  refine v_forR (fun j s => ∃ (its : List It) (left : List Nat) (i' v' : Int) (o5 o6 : O), (drs its ++ left).Perm ks ∧ left.length = ks.length - j ∧ (lts its).length ≤ 2 * j ∧ (∀ c ∈ lts its, c ∈ pool) ∧ i ≤ i' ∧ i' ≤ i + 4 * (j : Int) ∧ its.length ≤ 3 * j ∧ s = ⟨[.d (.ref 0), .d x, .d (.lst (pool.map sgD)), .lst (left.map natD), .lst (its.map itD), o5, o6], pen ns i' v' :: r⟩) ?_ ?_ ?_
  · exact ⟨[], ks, i, v, .hole, .hole, .refl _, by omega, by simp [lts], by simp [lts], by omega, by omega, by simp, rfl⟩
  · rintro j s hj ⟨its, left, i', v', o5, o6, p, hle, hlt, hlp, h4, h5, hil, rfl⟩
    have plen := p.length_eq
    rw [List.length_append] at plen
    sizeOf_list_dec
    refine draw_ok hw hd (by omega) (by omega) (by omega) (by omega) fun i2 v2 z h6 h7 h8 h9 => ?_
    sizeOf_list_dec
    refine x_atP (P := fun x => ∃ m : Nat, m ≤ 2 ∧ x = .int m) h8 (by simpa using h9) (by simp; exact ⟨⟨0, by omega, rfl⟩, ⟨1, by omega, rfl⟩, ⟨2, by omega, rfl⟩⟩) ?_
    rintro _ ⟨m, hm, rfl⟩
    sizeOf_list_dec
    refine ⟨by simp [rngOk]; omega, ?_⟩
    refine v_forR (fun u s => ∃ (it2 : List It) (i3 v3 : Int) (o6 : O), drs it2 = drs its ∧ (lts it2).length ≤ 2 * j + u ∧ (∀ c ∈ lts it2, c ∈ pool) ∧ i ≤ i3 ∧ i3 ≤ i + 4 * (j : Int) + 1 + u ∧ it2.length ≤ 3 * j + u ∧ s = ⟨[.d (.ref 0), .d x, .d (.lst (pool.map sgD)), .lst (left.map natD), .lst (it2.map itD), .d (.int j), o6], pen ns i3 v3 :: r⟩) ?_ ?_ ?_
    · exact ⟨its, i2, v2, _, rfl, by omega, hlp, by omega, by omega, by omega, rfl⟩
    · rintro u s hu ⟨it2, i3, v3, o6, e2, hlt2, hlp2, h10, h11, hil2, rfl⟩
      sizeOf_list_dec
      refine draw_ok hw hd (by rw [List.length_map]; omega) (by rw [List.length_map]; omega) (by omega) (by omega) fun i4 v4 z4 h12 h13 h14 h15 => ?_
      rw [List.length_map] at h15
      sizeOf_list_dec
      refine atI_mapD h14 h15 ?_
      sizeOf_list_dec
      have hz : z4.toNat < pool.length := by omega
      refine ⟨by rw [List.length_map]; unfold sizeLine; omega, it2 ++ [.s pool[z4.toNat]], i4, v4, .d (.int u), ?_, ?_, ?_, ?_, ?_, ?_, ?_⟩
      · rw [drs_app, e2]; simp [drs]
      · rw [lts_app]; simp [lts]; simp [lts] at hlt2; omega
      · intro c hc
        rw [lts_app] at hc
        rcases List.mem_append.mp hc with h | h
        · exact hlp2 c h
        · simp [lts] at h; rw [h]; exact List.getElem_mem _
      · omega
      · omega
      · simp; omega
      · simp [itD]
    · rintro s ⟨it2, i3, v3, o6, e2, hlt2, hlp2, h10, h11, hil2, rfl⟩
      array_get_dec
      rw [x_neN dk_nat]
      sizeOf_list_dec
      refine br (fun hne => ?_) (fun hn => ?_)
      · have hl0 : left ≠ [] := by
          intro e; subst e; cases hne
        have hl1 := List.length_pos_iff.mpr hl0
        sizeOf_list_dec
        refine draw_ok hw hd (by rw [List.length_map]; omega) (by rw [List.length_map]; omega) (by omega) (by omega) fun i4 v4 z4 h12 h13 h14 h15 => ?_
        rw [List.length_map] at h15
        sizeOf_list_dec
        refine popAt_map h14 h15 (by omega) ?_
        sizeOf_list_dec
        have hz : z4.toNat < left.length := by omega
        refine ⟨by rw [List.length_map]; unfold sizeLine; omega, it2 ++ [.k left[z4.toNat]], left.eraseIdx z4.toNat, i4, v4, .d (.int j), o6, ?_, ?_, ?_, ?_, ?_, ?_, ?_, ?_⟩
        · refine List.Perm.trans ?_ p
          rw [drs_app, e2, List.append_assoc]
          exact (eraseIdx_perm hz).append_left _
        · rw [List.length_eraseIdx_of_lt hz]; omega
        · rw [lts_app]; simp [lts]; simp [lts] at hlt2; omega
        · intro c hc
          rw [lts_app] at hc
          rcases List.mem_append.mp hc with h | h
          · exact hlp2 c h
          · simp [lts] at h
        · omega
        · omega
        · simp; omega
        · simp [itD, natD]
      · have hl0 : left = [] := by
          cases left with
          | nil => rfl
          | cons a q => cases hn
        subst hl0
        sizeOf_list_dec
        exact ⟨it2, [], i3, v3, .d (.int j), o6, by rw [e2]; exact p, by rw [List.length_nil] at hle ⊢; omega, by omega, hlp2, by omega, by omega, by omega, rfl⟩
  · rintro s ⟨its, left, i', v', o5, o6, p, hle, hlt, hlp, h4, h5, hil, rfl⟩
    have : left = [] := List.length_eq_zero_iff.mp (by omega)
    subst this
    rw [List.append_nil] at p
    sizeOf_list_dec
    exact k _ _ _ h4 (by omega) p (by omega) hlp
end
section
set_option maxHeartbeats 4000000
/-! Lw, part 21b: the other way of mixing a row; both by one promise -/
open PySem
variable {tb : Tab} {wf n : Nat} {w d : Nat} {G : O → List O → Prop} {h : List O} {b : Nat}
def bMix2 (d : Nat) : S := (.sq (.asg (.var 3) (.blt .lst (.cons (.var 1) .nil))) (.sq (.asg (.var 4) (.lst .nil)) (.sq (.for (.var 5) (.rng1 (.bin .add (.blt .len (.cons (.var 1) .nil)) (.con (.int 1)))) (.sq (.ite (.cmp .eq (.call d (.cons (.var 0) (.cons (.con (.int 3)) .nil))) (.con (.int 0))) (.sq (.expr (.app (.var 4) (.idx (.var 2) (.call d (.cons (.var 0) (.cons (.blt .len (.cons (.var 2) .nil)) .nil)))))) .nil) .nil) (.sq (.ite (.cmp .ne (.var 3) (.lst .nil)) (.sq (.expr (.app (.var 4) (.mth .popAt (.var 3) (.cons (.call d (.cons (.var 0) (.cons (.blt .len (.cons (.var 3) .nil)) .nil))) .nil)))) .nil) .nil) .nil))) (.sq (.ret (.blt .tup (.cons (.var 4) .nil))) .nil))))
def dMix2 (d : Nat) : Df := ⟨3, 6, [true, false, false], bMix2 d⟩
theorem mix2_ok {l : Nat} (hw : tb.defs[w]? = some dWell) (hd : tb.defs[d]? = some (dDraw w)) (hl : tb.defs[l]? = some (dMix2 d)) {pool ks : List Nat} (hp : pool ≠ []) (hp2 : pool.length ≤ 1000) (hk : ks.length ≤ 1000) {ns : List Int} {i v : Int} {r : List O} {x : D} (hx : Src r x ks) (h2 : 0 ≤ i) (h3 : i ≤ 999998000000)
    (k : ∀ (i' v' : Int) (its : List It), i ≤ i' → i' ≤ i + 4 * (ks.length + 1) → (drs its).Perm ks → (lts its).length ≤ 2 * (ks.length + 1) → (∀ c ∈ lts its, c ∈ pool) → G (.d (rowD its)) (pen ns i' v' :: r)) : Vc (run tb wf (n + 3) l [.d (.ref 0), .d x, .d (.lst (pool.map sgD))] (pen ns i v :: r)) G ⟨⟩ := by
  refine vc_run hl rfl ?_
  show V (ex _ _ _ (bMix2 d) ⟨[.d (.ref 0), .d x, .d (.lst (pool.map sgD)), .hole, .hole, .hole], pen ns i v :: r⟩) _ _
  obtain ⟨o, key, ol, on⟩ := src_ok hx
  have hpl := List.length_pos_iff.mpr hp
  unfold bMix2
  sizeOf_list_dec
  rw [key]
  sizeOf_list_dec
  rw [ol]
  sizeOf_list_dec
  rw [key]
  sizeOf_list_dec
  rw [on]
  sizeOf_list_dec
  refine ⟨by simp [rngOk]; omega, ?_⟩
  rw [show ((ks.length : Int) + 1).toNat = ks.length + 1 from by omega]
  refine v_forR (fun j s => ∃ (its : List It) (left : List Nat) (i' v' : Int) (o5 : O), (drs its ++ left).Perm ks ∧ left.length = ks.length - j ∧ (lts its).length ≤ j ∧ (∀ c ∈ lts its, c ∈ pool) ∧ i ≤ i' ∧ i' ≤ i + 3 * (j : Int) ∧ its.length ≤ 2 * j ∧ s = ⟨[.d (.ref 0), .d x, .d (.lst (pool.map sgD)), .lst (left.map natD), .lst (its.map itD), o5], pen ns i' v' :: r⟩) ?_ ?_ ?_
  · exact ⟨[], ks, i, v, .hole, .refl _, by omega, by simp [lts], by simp [lts], by omega, by omega, by simp, rfl⟩
  · rintro j s hj ⟨its, left, i', v', o5, p, hle, hlt, hlp, h4, h5, hil, rfl⟩
    have plen := p.length_eq
    rw [List.length_append] at plen
    sizeOf_list_dec
    refine v_meet (fun s => ∃ (it2 : List It) (i3 v3 : Int), drs it2 = drs its ∧ (lts it2).length ≤ j + 1 ∧ (∀ c ∈ lts it2, c ∈ pool) ∧ i ≤ i3 ∧ i3 ≤ i + 3 * (j : Int) + 2 ∧ it2.length ≤ 2 * j + 1 ∧ s = ⟨[.d (.ref 0), .d x, .d (.lst (pool.map sgD)), .lst (left.map natD), .lst (it2.map itD), .d (.int j)], pen ns i3 v3 :: r⟩) ?_ ?_
    · array_get_dec
      refine draw_ok hw hd (by omega) (by omega) (by omega) (by omega) fun i2 v2 z h6 h7 h8 h9 => ?_
      array_get_dec
      refine br (fun _ => ?_) (fun _ => ?_)
      · sizeOf_list_dec
        refine draw_ok hw hd (by rw [List.length_map]; omega) (by rw [List.length_map]; omega) (by omega) (by omega) fun i4 v4 z4 h12 h13 h14 h15 => ?_
        rw [List.length_map] at h15
        sizeOf_list_dec
        refine atI_mapD h14 h15 ?_
        sizeOf_list_dec
        have hz : z4.toNat < pool.length := by omega
        refine ⟨by rw [List.length_map]; unfold sizeLine; omega, its ++ [.s pool[z4.toNat]], i4, v4, ?_, ?_, ?_, ?_, ?_, ?_, ?_⟩
        · rw [drs_app]; simp [drs]
        · rw [lts_app]; simp [lts]; simp [lts] at hlt; omega
        · intro c hc
          rw [lts_app] at hc
          rcases List.mem_append.mp hc with h | h
          · exact hlp c h
          · simp [lts] at h; rw [h]; exact List.getElem_mem _
        · omega
        · omega
        · simp; omega
        · simp [itD]
      · sizeOf_list_dec
        exact ⟨its, i2, v2, rfl, by omega, hlp, by omega, by omega, by omega, rfl⟩
    · rintro s ⟨it2, i3, v3, e2, hlt2, hlp2, h10, h11, hil2, rfl⟩
      array_get_dec
      rw [x_neN dk_nat]
      sizeOf_list_dec
      refine br (fun hne => ?_) (fun hn => ?_)
      · have hl0 : left ≠ [] := by
          intro e; subst e; cases hne
        have hl1 := List.length_pos_iff.mpr hl0
        sizeOf_list_dec
        refine draw_ok hw hd (by rw [List.length_map]; omega) (by rw [List.length_map]; omega) (by omega) (by omega) fun i4 v4 z4 h12 h13 h14 h15 => ?_
        rw [List.length_map] at h15
        sizeOf_list_dec
        refine popAt_map h14 h15 (by omega) ?_
        sizeOf_list_dec
        have hz : z4.toNat < left.length := by omega
        refine ⟨by rw [List.length_map]; unfold sizeLine; omega, it2 ++ [.k left[z4.toNat]], left.eraseIdx z4.toNat, i4, v4, .d (.int j), ?_, ?_, ?_, ?_, ?_, ?_, ?_, ?_⟩
        · refine List.Perm.trans ?_ p
          rw [drs_app, e2, List.append_assoc]
          exact (eraseIdx_perm hz).append_left _
        · rw [List.length_eraseIdx_of_lt hz]; omega
        · rw [lts_app]; simp [lts]; simp [lts] at hlt2; omega
        · intro c hc
          rw [lts_app] at hc
          rcases List.mem_append.mp hc with h | h
          · exact hlp2 c h
          · simp [lts] at h
        · omega
        · omega
        · simp; omega
        · simp [itD, natD]
      · have hl0 : left = [] := by
          cases left with
          | nil => rfl
          | cons a q => cases hn
        subst hl0
        sizeOf_list_dec
        exact ⟨it2, [], i3, v3, .d (.int j), by rw [e2]; exact p, by rw [List.length_nil] at hle ⊢; omega, by omega, hlp2, by omega, by omega, by omega, rfl⟩
  · rintro s ⟨its, left, i', v', o5, p, hle, hlt, hlp, h4, h5, hil, rfl⟩
    have : left = [] := List.length_eq_zero_iff.mp (by omega)
    subst this
    rw [List.append_nil] at p
    sizeOf_list_dec
    exact k _ _ _ h4 (by omega) p (by omega) hlp
/-- what both ways of mixing promise -/
structure MixIs (tb : Tab) (m : Nat) : Prop where
  fl : tb.fl m = [true, false, false]
  ok : ∀ {wf n : Nat} {G : O → List O → Prop} {pool ks : List Nat} (hp : pool ≠ []) (hp2 : pool.length ≤ 1000) (hk : ks.length ≤ 1000) {ns : List Int} {i v : Int} {r : List O} {x : D} (hx : Src r x ks) (h2 : 0 ≤ i) (h3 : i ≤ 999998000000)
    (k : ∀ (i' v' : Int) (its : List It), i ≤ i' → i' ≤ i + 4 * (ks.length + 1) → (drs its).Perm ks → (lts its).length ≤ 2 * (ks.length + 1) → (∀ c ∈ lts its, c ∈ pool) → G (.d (rowD its)) (pen ns i' v' :: r)), Vc (run tb wf (n + 3) m [.d (.ref 0), .d x, .d (.lst (pool.map sgD))] (pen ns i v :: r)) G ⟨⟩
theorem mix_is {m : Nat} (hw : tb.defs[w]? = some dWell) (hd : tb.defs[d]? = some (dDraw w)) (hm : tb.defs[m]? = some (dMix d)) : MixIs tb m :=
  ⟨by rw [fl_of hm]; rfl, fun hp hp2 hk _ _ _ _ _ hx h2 h3 k => mix_ok hw hd hm hp hp2 hk hx h2 h3 k⟩
theorem mix2_is {m : Nat} (hw : tb.defs[w]? = some dWell) (hd : tb.defs[d]? = some (dDraw w)) (hm : tb.defs[m]? = some (dMix2 d)) : MixIs tb m :=
  ⟨by rw [fl_of hm]; rfl, fun hp hp2 hk _ _ _ _ _ hx h2 h3 k => mix2_ok hw hd hm hp hp2 hk hx h2 h3 k⟩
end
section
set_option maxHeartbeats 4000000
/-! Lw, part 22: rows, machines -/
open PySem
variable {tb : Tab} {wf n : Nat} {w d : Nat} {G : O → List O → Prop} {h : List O} {b : Nat}
theorem flatten_set {α : Type} {x : α} : ∀ {hs : List (List α)} {g : Nat} (hg : g < hs.length), ((hs.set g (hs[g] ++ [x])).flatten).Perm (x :: hs.flatten)
  | a :: hs, 0, _ => by
    simp only [List.set_cons_zero, List.flatten_cons, List.getElem_cons_zero, List.append_assoc, List.singleton_append]
    exact List.perm_middle
  | a :: hs, g + 1, h => by
    simp only [List.set_cons_succ, List.flatten_cons, List.getElem_cons_succ]
    exact ((flatten_set (by simpa using h)).append_left a).trans List.perm_middle
/-- a row's content is sound: drawers below k, each once, letters from some -/
def RowOk (k : Nat) (tells : List Nat) (row : List It) : Prop := (∃ lost, (drs row ++ lost).Perm (List.range k)) ∧ (lts row).length ≤ 2 * (k + 1) ∧ ∀ c ∈ lts row, c ∈ tells
/-- rows of a move -/
def RowsOk (k : Nat) (tells : List Nat) (rows : List (List It)) : Prop := rows.length = k ∧ (∃ lost, (rows.flatMap drs ++ lost).Perm (List.range k)) ∧ ∀ row ∈ rows, (lts row).length ≤ 2 * (k + 1) ∧ ∀ c ∈ lts row, c ∈ tells
def bRows (d m : Nat) : S := (.sq (.asg (.var 3) (.comp (.lst .nil) (.var 4) (.rng1 (.var 1)) (.con (.bl true)) [4])) (.sq (.for (.var 4) (.rng1 (.var 1)) (.sq (.asg (.var 5) (.ite (.cmp .eq (.call d (.cons (.var 0) (.cons (.con (.int 2)) .nil))) (.con (.int 0))) (.var 4) (.call d (.cons (.var 0) (.cons (.bin .add (.var 1) (.con (.int 1))) .nil))))) (.sq (.ite (.cmp .lt (.var 5) (.var 1)) (.sq (.expr (.app (.idx (.var 3) (.var 5)) (.var 4))) .nil) .nil) .nil))) (.sq (.ret (.blt .tup (.cons (.comp (.call m (.cons (.var 0) (.cons (.var 6) (.cons (.var 2) .nil)))) (.var 6) (.seq (.var 3)) (.con (.bl true)) [6]) .nil))) .nil)))
def dRows (d m : Nat) : Df := ⟨3, 7, [true, false, false], bRows d m⟩
def lstD (l : List Nat) : O := .lst (l.map natD)
theorem br_meetV {α : Type} {c : Bool} {r1 r2 : Res α} {K : α → St → Prop} (R : α → St → Prop) (h1 : c = true → V r1 R ⟨⟩) (h2 : c = false → V r2 R ⟨⟩) (k : ∀ a s, R a s → K a s) : Br c (V r1 K ⟨⟩) (V r2 K ⟨⟩) ⟨⟩ ⟨⟩ :=
  br (fun h => (h1 h).mono k) (fun h => (h2 h).mono k)
theorem atI_range {f : Nat → D} {kk g : Nat} {K : D → Prop} (hg : g < kk) (k : K (f g)) : X (L2.atI ((List.range kk).map f) (g : Int)) K ⟨⟩ := by
  refine atI_mapD (by omega) (by rw [List.length_range]; omega) ?_
  simpa using k
theorem rows_ok {l m : Nat} (hw : tb.defs[w]? = some dWell) (hd : tb.defs[d]? = some (dDraw w)) (hm : MixIs tb m) (hl : tb.defs[l]? = some (dRows d m)) {pool : List Nat} (hp : pool ≠ []) (hp2 : pool.length ≤ 1000) {kk : Nat} (hk : kk ≤ 100) {ns : List Int} {i v : Int} {r : List O} (h2 : 0 ≤ i) (h3 : i ≤ 999997000000)
    (k : ∀ (i' v' : Int) (rows : List (List It)) (r' : List O), i ≤ i' → i' ≤ i + 10000 * (kk + 1) → RowsOk kk pool rows → G (.d (.tup (rows.map rowD))) (pen ns i' v' :: (r ++ r'))) : Vc (run tb wf (n + 4) l [.d (.ref 0), .d (.int kk), .d (.lst (pool.map sgD))] (pen ns i v :: r)) G ⟨⟩ := by
  refine vc_run hl rfl ?_
  show V (ex _ _ _ (bRows d m) ⟨[.d (.ref 0), .d (.int kk), .d (.lst (pool.map sgD)), .hole, .hole, .hole, .hole], pen ns i v :: r⟩) _ _
  unfold bRows
  sizeOf_list_dec
  refine ⟨by simp [rngOk]; omega, ?_⟩
  refine v_compR (fun j acc s => ∃ o, acc = (List.range j).map (fun q => D.ref (r.length + q + 1)) ∧ s = ⟨[.d (.ref 0), .d (.int kk), .d (.lst (pool.map sgD)), .hole, o, .hole, .hole], pen ns i v :: (r ++ List.replicate j (.lst []))⟩) ?_ ?_ ?_
  · exact ⟨.hole, rfl, by simp⟩
  · rintro j acc s hj ⟨o, rfl, rfl⟩
    sizeOf_list_dec
    refine ⟨by rw [List.length_map, List.length_range]; unfold sizeLine; omega, .d (.int j), ?_, ?_⟩
    · rw [List.range_succ, List.map_append]
      simp
    · rw [List.replicate_succ']; simp
  rintro acc s ⟨o, rfl, rfl⟩
  sizeOf_list_dec
  refine ⟨by simp [rngOk]; omega, ?_⟩
  refine v_forR (fun j s => ∃ (hs : List (List Nat)) (lost : List Nat) (i' v' : Int) (o4 o5 : O), hs.length = kk ∧ (hs.flatten ++ lost).Perm (List.range j) ∧ i ≤ i' ∧ i' ≤ i + 2 * (j : Int) ∧ s = ⟨[.d (.ref 0), .d (.int kk), .d (.lst (pool.map sgD)), .lst ((List.range kk).map (fun q => D.ref (r.length + q + 1))), o4, o5, .hole], pen ns i' v' :: (r ++ hs.map lstD)⟩) ?_ ?_ ?_
  · exact ⟨List.replicate kk [], [], i, v, .hole, .hole, by simp, by simp, by omega, by omega, by simp [lstD]⟩
  · rintro j s hj ⟨hs, lost, i', v', o4, o5, hh, p, h4, h5, rfl⟩
    sizeOf_list_dec
    refine draw_ok hw hd (by omega) (by omega) (by omega) (by omega) fun i2 v2 z h6 h7 h8 h9 => ?_
    sizeOf_list_dec
    refine br_meetV (fun a s => ∃ (g : Nat) (i3 v3 : Int), i ≤ i3 ∧ i3 ≤ i' + 2 ∧ a = .tmp (.d (.int g)) ∧ s = ⟨[.d (.ref 0), .d (.int kk), .d (.lst (pool.map sgD)), .lst ((List.range kk).map (fun q => D.ref (r.length + q + 1))), .d (.int j), o5, .hole], pen ns i3 v3 :: (r ++ hs.map lstD)⟩) (fun _ => ?_) (fun _ => ?_) ?_
    · sizeOf_list_dec
      exact ⟨j, i2, v2, by omega, by omega, rfl, rfl⟩
    · sizeOf_list_dec
      refine draw_ok hw hd (by omega) (by omega) (by omega) (by omega) fun i3 v3 z3 h10 h11 h12 h13 => ?_
      obtain ⟨g, rfl⟩ := Int.eq_ofNat_of_zero_le h12
      exact ⟨g, i3, v3, by omega, by omega, rfl, rfl⟩
    rintro _ _ ⟨g, i3, v3, h10, h11, rfl, rfl⟩
    array_get_dec
    refine br (fun hg => ?_) (fun hg => ?_)
    · have hg := of_decide_eq_true hg
      have hg2 : g < kk := by omega
      sizeOf_list_dec
      refine atI_range hg2 ?_
      sizeOf_list_dec
      have hq : (r ++ hs.map lstD)[r.length + g]? = some (.lst ((hs[g]'(by omega)).map natD)) := by
        rw [List.getElem?_append_right (by omega)]
        simp [hh, hg2, lstD]
      rw [lk_at hq]
      sizeOf_list_dec
      rw [lk_at hq]
      sizeOf_list_dec
      have hlen : (hs[g]'(by omega)).length ≤ 100 := by
        have h1 := p.length_eq
        rw [List.length_append, List.length_range] at h1
        have h2 : (hs[g]'(by omega)).length ≤ hs.flatten.length := (List.sublist_flatten_of_mem (List.getElem_mem _)).length_le
        omega
      refine ⟨by rw [List.length_map]; unfold sizeLine; omega, ?_⟩
      rw [sto_at (by simp; omega)]
      sizeOf_list_dec
      refine ⟨hs.set g (hs[g] ++ [j]), lost, i3, v3, .d (.int j), .d (.int g), by simp [hh], ?_, by omega, by omega, ?_⟩
      · rw [List.range_succ]
        refine ((flatten_set (by omega)).append_right lost).trans ?_
        rw [List.cons_append]
        exact (p.cons j).trans (List.perm_append_singleton j _).symm
      · rw [List.set_append_right _ _ (by omega)]
        simp [lstD, natD, List.map_set]
    · have hg := of_decide_eq_false hg
      sizeOf_list_dec
      refine ⟨hs, lost ++ [j], i3, v3, .d (.int j), .d (.int g), hh, ?_, by omega, by omega, rfl⟩
      rw [List.range_succ, ← List.append_assoc]
      exact p.append_right _
  rintro s ⟨hs, lost, i', v', o4, o5, hh, p, h4, h5, rfl⟩
  sizeOf_list_dec
  have plen := p.length_eq
  rw [List.length_append, List.length_range] at plen
  have hlen : ∀ l ∈ hs, l.length ≤ kk := fun l hl => by
    have h2 : l.length ≤ hs.flatten.length := (List.sublist_flatten_of_mem hl).length_le
    omega
  refine v_compL (fun j acc s => ∃ (rs : List (List It)) (i2 v2 : Int) (o : O), acc = rs.map rowD ∧ rs.length = j ∧ (rs.flatMap drs).Perm (hs.take j).flatten ∧ (∀ row ∈ rs, (lts row).length ≤ 2 * (kk + 1) ∧ ∀ c ∈ lts row, c ∈ pool) ∧ i ≤ i2 ∧ i2 ≤ i + 2 * (kk : Int) + 4 * (kk + 1) * (j : Int) ∧ s = ⟨[.d (.ref 0), .d (.int kk), .d (.lst (pool.map sgD)), .d (.lst ((List.range kk).map (fun q => D.ref (r.length + q + 1)))), o4, o5, o], pen ns i2 v2 :: (r ++ hs.map lstD)⟩) ?_ ?_ ?_
  · exact ⟨[], i', v', _, rfl, rfl, by simp, by simp, by omega, by omega, rfl⟩
  · rintro j acc s hj ⟨rs, i2, v2, o, rfl, hrl, hrp, hrk, h6, h7, rfl⟩
    rw [List.length_map, List.length_range] at hj
    have hjk : 4 * ((kk : Int) + 1) * (j : Int) ≤ 4 * 101 * 100 := Int.mul_le_mul (by omega) (by omega) (by omega) (by omega)
    have hx : Src (r ++ hs.map lstD) (.ref (r.length + j + 1)) (hs[j]'(by omega)) := by
      refine .inr ⟨_, rfl, ?_⟩
      rw [List.getElem?_append_right (by omega)]
      simp [hh, hj, lstD]
    have hl3 := hlen _ (List.getElem_mem (l := hs) (n := j) (by omega))
    simp only [List.getElem_map, List.getElem_range]
    sizeOf_list_dec
    refine hm.ok hp hp2 (by omega) hx (by omega) (by omega) fun i3 v3 its h8 h9 hd1 hd2 hd3 => ?_
    unfold rowD
    sizeOf_list_dec
    refine ⟨by rw [List.length_map]; unfold sizeLine; omega, rs ++ [its], i3, v3, .d (.ref (r.length + j + 1)), by simp [rowD], by simp [hrl], ?_, ?_, by omega, ?_, rfl⟩
    · rw [List.take_add_one, List.getElem?_eq_getElem (by omega)]
      simp only [List.flatMap_append, List.flatten_append, Option.toList_some, List.flatten_cons, List.flatten_nil, List.append_nil, List.flatMap_cons, List.flatMap_nil]
      exact hrp.append hd1
    · intro row hrow
      rcases List.mem_append.mp hrow with h | h
      · exact hrk row h
      · rw [List.mem_singleton.mp h]
        exact ⟨by omega, hd3⟩
    · have e1 : 4 * ((kk : Int) + 1) * ((j + 1 : Nat) : Int) = 4 * ((kk : Int) + 1) * (j : Int) + 4 * ((kk : Int) + 1) := by
        rw [Int.natCast_add, Int.mul_add]; omega
      omega
  · rintro acc s ⟨rs, i2, v2, o, rfl, hrl, hrp, hrk, h6, h7, rfl⟩
    rw [List.length_map, List.length_range] at hrl hrp h7
    rw [List.take_of_length_le (by omega)] at hrp
    have hjk : 4 * ((kk : Int) + 1) * (kk : Int) ≤ 4 * ((kk : Int) + 1) * 100 := Int.mul_le_mul (by omega) (by omega) (by omega) (by omega)
    sizeOf_list_dec
    refine k _ _ _ _ h6 (by omega) ⟨hrl, ⟨lost, (hrp.append_right lost).trans p⟩, hrk⟩
end
section
set_option maxHeartbeats 4000000
/-! Lw, part 23: machines -/
open PySem
variable {tb : Tab} {wf n : Nat} {w d : Nat} {G : O → List O → Prop} {h : List O} {b : Nat}
abbrev Mv := Nat × Nat × List (List It)
abbrev Stt := List Mv × Option (List It)
def mvD (m : Mv) : D := .tup [sgD m.1, .int m.2.1, .tup (m.2.2.map rowD)]
def endD : Option (List It) → D | none => .non | some r => rowD r
def stD (s : Stt) : D := .tup [.tup (s.1.map mvD), endD s.2]
def machD (k : Nat) (sts : List Stt) : D := .tup [.int k, .tup (sts.map stD)]
def SttOk (reads tells : List Nat) (S k : Nat) (st : Stt) : Prop := (st.1.map (·.1)).Sublist reads ∧ (∀ mv ∈ st.1, mv.2.1 < S ∧ RowsOk k tells mv.2.2) ∧ ∀ row, st.2 = some row → RowOk k tells row
def MachOk (reads tells : List Nat) (S k : Nat) (sts : List Stt) : Prop := sts.length = S ∧ ∀ st ∈ sts, SttOk reads tells S k st
theorem sub_perm {α : Type} {a b : List α} (h : a.Sublist b) : ∃ l, (a ++ l).Perm b := by
  induction h with
  | slnil => exact ⟨[], .refl _⟩
  | @cons a b x _ ih =>
    obtain ⟨l, p⟩ := ih
    exact ⟨x :: l, List.perm_middle.trans (p.cons x)⟩
  | @cons_cons a b x _ ih =>
    obtain ⟨l, p⟩ := ih
    exact ⟨l, p.cons x⟩
def bMachine (d m q : Nat) : S := (.sq (.asg (.var 5) (.lst .nil)) (.sq (.for (.var 6) (.rng1 (.var 3)) (.sq (.asg (.var 7) (.lst .nil)) (.sq (.for (.var 8) (.seq (.var 1)) (.sq (.ite (.cmp .gt (.call d (.cons (.var 0) (.cons (.con (.int 8)) .nil))) (.con (.int 0))) (.sq (.asg (.var 11) (.call d (.cons (.var 0) (.cons (.var 3) .nil)))) (.sq (.expr (.app (.var 7) (.tup (.cons (.var 8) (.cons (.var 11) (.cons (.call q (.cons (.var 0) (.cons (.var 4) (.cons (.var 2) .nil)))) .nil)))))) .nil)) .nil) .nil)) (.sq (.asg (.var 9) (.comp (.var 12) (.var 12) (.rng1 (.var 4)) (.cmp .gt (.call d (.cons (.var 0) (.cons (.con (.int 4)) .nil))) (.con (.int 0))) [12])) (.sq (.asg (.var 10) (.ite (.cmp .gt (.call d (.cons (.var 0) (.cons (.con (.int 8)) .nil))) (.con (.int 0))) (.call m (.cons (.var 0) (.cons (.var 9) (.cons (.var 2) .nil)))) (.con .non))) (.sq (.expr (.app (.var 5) (.tup (.cons (.blt .tup (.cons (.var 7) .nil)) (.cons (.var 10) .nil))))) .nil)))))) (.sq (.ret (.tup (.cons (.var 4) (.cons (.blt .tup (.cons (.var 5) .nil)) .nil)))) .nil)))
def dMachine (d m q : Nat) : Df := ⟨5, 13, [true, false, false, false, false], bMachine d m q⟩
theorem machine_okM {l m q : Nat} (hw : tb.defs[w]? = some dWell) (hd : tb.defs[d]? = some (dDraw w)) (hm : MixIs tb m) (hq : tb.defs[q]? = some (dRows d m)) (hl : tb.defs[l]? = some (dMachine d m q)) {reads tells : List Nat} (hrd : reads.length ≤ 26) (hp : tells ≠ []) (hp2 : tells.length ≤ 1000) {S kk : Nat} (hS : 0 < S) (hS2 : S ≤ 1000) (hk : kk ≤ 100) {ns : List Int} {i v : Int} {r : List O} (h2 : 0 ≤ i) (h3 : i ≤ 900000000000)
    (k : ∀ (i' v' : Int) (sts : List Stt) (r' : List O), i ≤ i' → i' ≤ i + 30000000 * (S : Int) → MachOk reads tells S kk sts → G (.d (machD kk sts)) (pen ns i' v' :: (r ++ r'))) : Vc (run tb wf (n + 5) l [.d (.ref 0), .d (.lst (reads.map sgD)), .d (.lst (tells.map sgD)), .d (.int S), .d (.int kk)] (pen ns i v :: r)) G ⟨⟩ := by
  refine vc_run hl rfl ?_
  show V (ex _ _ _ (bMachine d m q) ⟨[.d (.ref 0), .d (.lst (reads.map sgD)), .d (.lst (tells.map sgD)), .d (.int S), .d (.int kk), .hole, .hole, .hole, .hole, .hole, .hole, .hole, .hole], pen ns i v :: r⟩) _ _
  unfold bMachine
  sizeOf_list_dec
  refine ⟨by simp [rngOk]; omega, ?_⟩
  refine v_forR (fun u s => ∃ (sts : List Stt) (i' v' : Int) (r' : List O) (o6 o7 o8 o9 o10 o11 o12 : O), sts.length = u ∧ (∀ st ∈ sts, SttOk reads tells S kk st) ∧ i ≤ i' ∧ i' ≤ i + 30000000 * (u : Int) ∧ s = ⟨[.d (.ref 0), .d (.lst (reads.map sgD)), .d (.lst (tells.map sgD)), .d (.int S), .d (.int kk), .lst (sts.map stD), o6, o7, o8, o9, o10, o11, o12], pen ns i' v' :: (r ++ r')⟩) ?_ ?_ ?_
  · exact ⟨[], i, v, [], .hole, .hole, .hole, .hole, .hole, .hole, .hole, rfl, by simp, by omega, by omega, by simp⟩
  · rintro u s hu ⟨sts, i', v', r', o6, o7, o8, o9, o10, o11, o12, hul, hst, h4, h5, rfl⟩
    sizeOf_list_dec
    refine v_for (fun j s => ∃ (ms : List Mv) (i2 v2 : Int) (r2 : List O) (o8 o11 : O), (ms.map (·.1)).Sublist (reads.take j) ∧ (∀ mv ∈ ms, mv.2.1 < S ∧ RowsOk kk tells mv.2.2) ∧ ms.length ≤ j ∧ i' ≤ i2 ∧ i2 ≤ i' + 1020000 * (j : Int) ∧ s = ⟨[.d (.ref 0), .d (.lst (reads.map sgD)), .d (.lst (tells.map sgD)), .d (.int S), .d (.int kk), .lst (sts.map stD), .d (.int u), .lst (ms.map mvD), o8, o9, o10, o11, o12], pen ns i2 v2 :: (r ++ r2)⟩) ?_ ?_ ?_
    · exact ⟨[], i', v', r', o8, o11, by simp, by simp, by simp, by omega, by omega, rfl⟩
    · rintro j s hj ⟨ms, i2, v2, r2, o8, o11, hsub, hmv, hml, h6, h7, rfl⟩
      rw [List.length_map] at hj
      rw [List.getElem_map]
      array_get_dec
      refine draw_ok hw hd (by omega) (by omega) (by omega) (by omega) fun i3 v3 z h8 h9 h10 h11 => ?_
      sizeOf_list_dec
      refine br (fun _ => ?_) (fun _ => ?_)
      · sizeOf_list_dec
        refine draw_ok hw hd (by omega) (by omega) (by omega) (by omega) fun i4 v4 g h12 h13 h14 h15 => ?_
        obtain ⟨g, rfl⟩ := Int.eq_ofNat_of_zero_le h14
        sizeOf_list_dec
        refine rows_ok hw hd hm hq hp hp2 hk (by omega) (by omega) fun i5 v5 rows r3 h16 h17 hrows => ?_
        sizeOf_list_dec
        have eq1 : 10000 * ((kk : Int) + 1) ≤ 1010000 := by omega
        refine ⟨by rw [List.length_map]; unfold sizeLine; omega, ms ++ [(reads[j], g, rows)], i5, v5, r2 ++ r3, _, _, ?_, ?_, by simp; omega, by omega, by omega, by rw [List.map_append, List.append_assoc]; rfl⟩
        · rw [List.take_add_one, List.getElem?_eq_getElem hj, List.map_append]
          exact hsub.append (.refl _)
        · intro mv hmm
          rcases List.mem_append.mp hmm with h | h
          · exact hmv mv h
          · rw [List.mem_singleton.mp h]; exact ⟨(by omega : g < S), hrows⟩
      · sizeOf_list_dec
        refine ⟨ms, i3, v3, r2, _, o11, ?_, hmv, by omega, by omega, by omega, rfl⟩
        rw [List.take_add_one]
        exact hsub.trans (List.sublist_append_left _ _)
    · rintro s ⟨ms, i2, v2, r2, o8, o11, hsub, hmv, hml, h6, h7, rfl⟩
      rw [List.length_map] at hsub hml h7
      rw [List.take_length] at hsub
      sizeOf_list_dec
      refine ⟨by simp [rngOk]; omega, ?_⟩
      refine v_compR (fun j acc s => ∃ (ks : List Nat) (i3 v3 : Int) (o : O), acc = ks.map natD ∧ ks.Sublist (List.range j) ∧ i2 ≤ i3 ∧ i3 ≤ i2 + j ∧ s = ⟨[.d (.ref 0), .d (.lst (reads.map sgD)), .d (.lst (tells.map sgD)), .d (.int S), .d (.int kk), .lst (sts.map stD), .d (.int u), .lst (ms.map mvD), o8, o9, o10, o11, o], pen ns i3 v3 :: (r ++ r2)⟩) ?_ ?_ ?_
      · exact ⟨[], i2, v2, o12, rfl, .refl _, by omega, by omega, rfl⟩
      · rintro j acc s hj ⟨ks, i3, v3, o, rfl, hks, h8, h9, rfl⟩
        have hkl := hks.length_le
        rw [List.length_range] at hkl
        sizeOf_list_dec
        refine draw_ok hw hd (by omega) (by omega) (by omega) (by omega) fun i4 v4 z h10 h11 h12 h13 => ?_
        sizeOf_list_dec
        refine br (fun _ => ?_) (fun _ => ?_)
        · sizeOf_list_dec
          refine ⟨by rw [List.length_map]; unfold sizeLine; omega, ks ++ [j], i4, v4, _, by simp [natD], ?_, by omega, by omega, rfl⟩
          rw [List.range_succ]
          exact hks.append (.refl _)
        · refine ⟨ks, i4, v4, _, rfl, ?_, by omega, by omega, rfl⟩
          rw [List.range_succ]
          exact hks.trans (List.sublist_append_left _ _)
      rintro acc s ⟨ks, i3, v3, o, rfl, hks, h8, h9, rfl⟩
      have hkl := hks.length_le
      rw [List.length_range] at hkl
      sizeOf_list_dec
      refine draw_ok hw hd (by omega) (by omega) (by omega) (by omega) fun i4 v4 z h10 h11 h12 h13 => ?_
      sizeOf_list_dec
      refine br_meetV (fun a s => ∃ (e : Option (List It)) (i5 v5 : Int) (o9 : O), (∀ row, e = some row → RowOk kk tells row) ∧ i4 ≤ i5 ∧ i5 ≤ i4 + 1000 ∧ a = .tmp (.d (endD e)) ∧ s = ⟨[.d (.ref 0), .d (.lst (reads.map sgD)), .d (.lst (tells.map sgD)), .d (.int S), .d (.int kk), .lst (sts.map stD), .d (.int u), .lst (ms.map mvD), o8, o9, o10, o11, o12], pen ns i5 v5 :: (r ++ r2)⟩) (fun _ => ?_) (fun _ => ?_) ?_
      · sizeOf_list_dec
        rw [hm.fl]
        sizeOf_list_dec
        refine hm.ok hp hp2 (by omega) (.inl rfl) (by omega) (by omega) fun i5 v5 its h14 h15 hd1 hd2 hd3 => ?_
        refine ⟨some its, i5, v5, _, ?_, by omega, by omega, rfl, rfl⟩
        intro row e
        cases e
        obtain ⟨lost, pl⟩ := sub_perm hks
        exact ⟨⟨lost, (hd1.append_right lost).trans pl⟩, by omega, hd3⟩
      · sizeOf_list_dec
        exact ⟨none, i4, v4, _, by simp, by omega, by omega, rfl, rfl⟩
      rintro _ _ ⟨e, i5, v5, o9', he, h14, h15, rfl, rfl⟩
      sizeOf_list_dec
      refine ⟨by rw [List.length_map]; unfold sizeLine; omega, sts ++ [(ms, e)], i5, v5, r2, _, _, _, _, _, _, _, by simp [hul], ?_, by omega, by omega, by rw [List.map_append]; rfl⟩
      intro st hs2
      rcases List.mem_append.mp hs2 with h | h
      · exact hst st h
      · rw [List.mem_singleton.mp h]
        exact ⟨hsub, hmv, he⟩
  · rintro s ⟨sts, i', v', r', o6, o7, o8, o9, o10, o11, o12, hul, hst, h4, h5, rfl⟩
    sizeOf_list_dec
    exact k _ _ _ _ h4 (by omega) ⟨hul, hst⟩
theorem machine_ok {l m q : Nat} (hw : tb.defs[w]? = some dWell) (hd : tb.defs[d]? = some (dDraw w)) (hm : tb.defs[m]? = some (dMix d)) (hq : tb.defs[q]? = some (dRows d m)) (hl : tb.defs[l]? = some (dMachine d m q)) {reads tells : List Nat} (hrd : reads.length ≤ 26) (hp : tells ≠ []) (hp2 : tells.length ≤ 1000) {S kk : Nat} (hS : 0 < S) (hS2 : S ≤ 1000) (hk : kk ≤ 100) {ns : List Int} {i v : Int} {r : List O} (h2 : 0 ≤ i) (h3 : i ≤ 900000000000)
    (k : ∀ (i' v' : Int) (sts : List Stt) (r' : List O), i ≤ i' → i' ≤ i + 30000000 * (S : Int) → MachOk reads tells S kk sts → G (.d (machD kk sts)) (pen ns i' v' :: (r ++ r'))) : Vc (run tb wf (n + 5) l [.d (.ref 0), .d (.lst (reads.map sgD)), .d (.lst (tells.map sgD)), .d (.int S), .d (.int kk)] (pen ns i v :: r)) G ⟨⟩ :=
  machine_okM hw hd (mix_is hw hd hm) hq hl hrd hp hp2 hS hS2 hk h2 h3 k
end
section
set_option maxHeartbeats 4000000
/-! Lw, part 24: what can be shown -/
open PySem
/-- data that can be shown: its weight, its depth -/
def Sh (m dep : Nat) (x : D) : Prop := ∃ p, x.py = some p ∧ p.showable = true ∧ p.canLay0 = true ∧ p.intsShort 13 = true ∧ p.weight ≤ m ∧ p.depth ≤ dep
theorem Sh.mono {m m' dep dep' : Nat} {x : D} (h : Sh m dep x) (h1 : m ≤ m') (h2 : dep ≤ dep') : Sh m' dep' x := by
  obtain ⟨p, a, b, c, d, e, f⟩ := h
  exact ⟨p, a, b, c, d, by omega, by omega⟩
def shD (x : D) : Str := match x.py with | some p => p.shown | none => Str.ofString ""
theorem x_rep {m dep : Nat} {x : D} {K : O → Prop} {t : Tag K} (h : Sh m dep x) (hm : m ≤ 1048576) (hd : dep ≤ 64) : X (bltop .rep [.d x]) K t = K (.d (.str (shD x))) := by
  obtain ⟨p, a, b, c, d, e, f⟩ := h
  have z : p.shown.length ≤ sizeLine := PyData.shown_fits (B := 13) (by decide) (by decide) (PyData.leavesShort_of_canLay0 13 p c d) (by omega)
  have l : line p.shown.length = true := decide_eq_true z
  have f : p.depth ≤ 64 := Nat.le_trans f hd
  simp [X, bltop, bRep, O.py, a, b, l, f, shD]
theorem sh_non : Sh 0 0 .non := ⟨.none, by simp [D.py], rfl, rfl, rfl, Nat.le_refl _, Nat.le_refl _⟩
theorem sh_bl {b : Bool} : Sh 0 0 (.bl b) := ⟨.bool b, by simp [D.py], rfl, rfl, rfl, Nat.le_refl _, Nat.le_refl _⟩
theorem log_small {n : Nat} (h : n < 1000000000000) : n.log2 < 40 := by
  by_cases h0 : n = 0
  · subst h0; decide
  · exact (Nat.log2_lt h0).mpr (by omega)
theorem sh_int {i : Int} (h : i.natAbs < 1000000000000) : Sh 41 0 (.int i) := by
  refine ⟨.int i, by simp [D.py], ?_, rfl, ?_, ?_, Nat.le_refl _⟩
  · simp only [PyData.showable, decide_eq_true_eq]
    have := log_small h
    omega
  · simp only [PyData.intsShort, decide_eq_true_eq, PyData.shown]
    show decide ((Str.ofString (toString i)).length ≤ 13) = true
    rw [decide_eq_true_eq]
    rw [ofString_length]
    exact int_text_length_le10 (k := 12) (by decide) (by omega)
  · unfold PyData.weight
    have := log_small h
    split <;> omega
theorem sh_str {x : Str} {m : Nat} (h : ∀ c ∈ x.cps.toList, c < 1114112) (hm : x.cps.size ≤ m) : Sh m 0 (.str x) := by
  refine ⟨.str x, by simp [D.py], rfl, ?_, rfl, hm, Nat.le_refl _⟩
  simp only [PyData.canLay0, PyData.strOk, Array.all_eq_true, decide_eq_true_eq]
  intro i hi
  exact h _ (by simp)
theorem pys_sh {m dep : Nat} : ∀ {xs : List D}, (∀ x ∈ xs, Sh m dep x) → ∃ ps, pys xs = some ps ∧ PyData.showableAll ps = true ∧ PyData.canLayAll0 ps = true ∧ PyData.intsShortAll 13 ps = true ∧ PyData.weightAll ps ≤ xs.length * (m + 1) ∧ PyData.depthAll ps ≤ dep
  | [], _ => ⟨[], rfl, rfl, rfl, rfl, Nat.zero_le _, Nat.zero_le _⟩
  | x :: xs, h => by
    obtain ⟨p, a, b, c, d, e, f⟩ := h x (List.mem_cons_self ..)
    obtain ⟨ps, a2, b2, c2, d2, e2, f2⟩ := pys_sh fun y hy => h y (List.mem_cons_of_mem _ hy)
    refine ⟨p :: ps, by simp [pys, a, a2], by simp [PyData.showableAll, b, b2], by simp [PyData.canLayAll0, c, c2], by simp [PyData.intsShortAll, d, d2], ?_, ?_⟩
    · simp only [PyData.weightAll, List.length_cons, Nat.add_mul, Nat.one_mul]; omega
    · simp only [PyData.depthAll]; omega
theorem sh_tup {m dep n M : Nat} {xs : List D} (h : ∀ x ∈ xs, Sh m dep x) (hn : xs.length ≤ n) (hM : n * (m + 1) ≤ M) : Sh M (dep + 1) (.tup xs) := by
  obtain ⟨ps, a, b, c, d, e, f⟩ := pys_sh h
  have := Nat.mul_le_mul_right (m + 1) hn
  exact ⟨.tuple ps, by simp [D.py, a], by simp [PyData.showable, b], by simp [PyData.canLay0, c], by simp [PyData.intsShort, d], by simp only [PyData.weight]; omega, by simp only [PyData.depth]; omega⟩
theorem sh_lst {m dep n M : Nat} {xs : List D} (h : ∀ x ∈ xs, Sh m dep x) (hn : xs.length ≤ n) (hM : n * (m + 1) ≤ M) : Sh M (dep + 1) (.lst xs) := by
  obtain ⟨ps, a, b, c, d, e, f⟩ := pys_sh h
  have := Nat.mul_le_mul_right (m + 1) hn
  exact ⟨.list ps, by simp [D.py, a], by simp [PyData.showable, b], by simp [PyData.canLay0, c], by simp [PyData.intsShort, d], by simp only [PyData.weight]; omega, by simp only [PyData.depth]; omega⟩
end
section
set_option maxHeartbeats 4000000
/-! Lw, part 25: moves, rows poured out, what a text does from a state -/
open PySem
variable {tb : Tab} {wf n : Nat} {G : O → List O → Prop} {h : List O}
/-- what a drawer holds: drawers' contents ahead, letters with their place -/
inductive Ct where | k (d : Nat) | p (c : Nat) (pl : Int)
def ctD : Ct → D | .k d => .int d | .p c pl => .tup [sgD c, .int pl]
def cnD (l : List Ct) : D := .tup (l.map ctD)
def pour1 (full : List (List Ct)) (pl : Int) : It → List Ct | .s c => [.p c pl] | .k d => full.getD d []
def pour (full : List (List Ct)) (pl : Int) (row : List It) : List Ct := row.flatMap (pour1 full pl)
def bPour : S := (.sq (.asg (.var 3) (.tup .nil)) (.sq (.for (.var 4) (.seq (.var 0)) (.sq (.asg (.var 3) (.bin .add (.var 3) (.ite (.blt .isi (.cons (.var 4) (.cons (.con (.ty "str")) .nil))) (.tup (.cons (.tup (.cons (.var 4) (.cons (.var 2) .nil))) .nil)) (.idx (.var 1) (.var 4))))) .nil)) (.sq (.ret (.var 3)) .nil)))
def dPour : Df := ⟨3, 5, [false, false, false], bPour⟩
theorem pour_take {full : List (List Ct)} {pl : Int} {row : List It} {j : Nat} (hj : j < row.length) : pour full pl (row.take (j + 1)) = pour full pl (row.take j) ++ pour1 full pl row[j] := by
  unfold pour
  rw [List.take_add_one, List.getElem?_eq_getElem hj, List.flatMap_append]
  simp only [Option.toList_some, List.flatMap_cons, List.flatMap_nil, List.append_nil]
theorem pour_take_le {full : List (List Ct)} {pl : Int} {row : List It} {j : Nat} : (pour full pl (row.take j)).length ≤ (pour full pl row).length := by
  have : pour full pl row = pour full pl (row.take j) ++ pour full pl (row.drop j) := by
    unfold pour; rw [← List.flatMap_append, List.take_append_drop]
  rw [this, List.length_append]; omega
/-- a place of contents, as a list or a tuple -/
def isCns (x : D) (full : List (List Ct)) : Prop := x = .tup (full.map cnD) ∨ x = .lst (full.map cnD)
theorem mem_drs {row : List It} {d : Nat} (h : It.k d ∈ row) : d ∈ drs row := List.mem_filterMap.mpr ⟨_, h, rfl⟩
theorem pour_ok {f : Nat} (hf : tb.defs[f]? = some dPour) {row : List It} {full : List (List Ct)} {pl : Int} {x : D} (hx : isCns x full) (hr : ∀ d ∈ drs row, d < full.length) (hl : (pour full pl row).length ≤ 16777216)
    (k : G (.d (cnD (pour full pl row))) h) : Vc (run tb wf (n + 1) f [.d (rowD row), .d x, .d (.int pl)] h) G ⟨⟩ := by
  refine vc_run hf rfl ?_
  show V (ex _ _ _ bPour ⟨[.d (rowD row), .d x, .d (.int pl), .hole, .hole], h⟩) _ _
  unfold bPour rowD
  sizeOf_list_dec
  refine v_for (fun j s => ∃ o, s = ⟨[.d (rowD row), .d x, .d (.int pl), .d (cnD (pour full pl (row.take j))), o], h⟩) ⟨.hole, rfl⟩ ?_ ?_
  · rintro j s hj ⟨o, rfl⟩
    rw [List.length_map] at hj
    have hlen := Nat.le_trans (pour_take_le (full := full) (pl := pl) (row := row) (j := j + 1)) hl
    have e := pour_take (full := full) (pl := pl) hj
    rw [e, List.length_append] at hlen
    rw [e, List.getElem_map]
    have hm : row[j] ∈ row := List.getElem_mem hj
    generalize row[j] = it at hm hlen ⊢
    cases it with
    | s c =>
      unfold cnD
      simp only [itD, sgD, pour1] at hlen ⊢
      sizeOf_list_dec
      refine ⟨by simpa using hlen, .d (.str (ltr c)), ?_⟩
      simp [ctD, sgD]
    | k d =>
      have hd := hr d (mem_drs hm)
      have e2 : full.getD d [] = full[d] := by simp [hd]
      unfold cnD
      simp only [itD, pour1, e2] at hlen ⊢
      rcases hx with rfl | rfl
      · sizeOf_list_dec
        refine atI_mapD (by omega) (by omega) ?_
        simp only [Int.toNat_natCast]
        unfold cnD
        sizeOf_list_dec
        refine ⟨by simpa using hlen, .d (.int d), ?_⟩
        simp [hd]
      · sizeOf_list_dec
        refine atI_mapD (by omega) (by omega) ?_
        simp only [Int.toNat_natCast]
        unfold cnD
        sizeOf_list_dec
        refine ⟨by simpa using hlen, .d (.int d), ?_⟩
        simp [hd]
  · rintro s ⟨o, rfl⟩
    rw [List.length_map, List.take_length]
    sizeOf_list_dec
    exact k
/-- a state's move by a letter -/
def findMv (ms : List Mv) (c : Nat) : Option Mv := ms.find? fun m => m.1 == c
theorem find_take {ms : List Mv} {c j : Nat} (hj : j < ms.length) (hn : findMv (ms.take j) c = none) : findMv (ms.take (j + 1)) c = (if ms[j].1 == c then some ms[j] else none) ∧ (ms[j].1 = c → findMv ms c = some ms[j]) := by
  have et : findMv (ms.take (j + 1)) c = if ms[j].1 == c then some ms[j] else none := by
    unfold findMv at hn ⊢
    rw [List.take_add_one, List.getElem?_eq_getElem hj, List.find?_append, hn]
    simp only [Option.toList_some, Option.none_or, List.find?]
    split <;> simp_all
  refine ⟨et, fun e => ?_⟩
  have e2 : findMv ms c = findMv (ms.take (j + 1) ++ ms.drop (j + 1)) c := by rw [List.take_append_drop]
  rw [e2]
  unfold findMv at et ⊢
  rw [List.find?_append, et]
  simp [e]
def bMove : S := (.sq (.for (.tup (.cons (.var 3) (.cons (.var 4) (.cons (.var 5) .nil)))) (.seq (.idx (.idx (.idx (.var 0) (.con (.int 1))) (.var 1)) (.con (.int 0)))) (.sq (.ite (.cmp .eq (.var 3) (.var 2)) (.sq (.ret (.tup (.cons (.var 4) (.cons (.var 5) .nil)))) .nil) .nil) .nil)) (.sq (.ret (.con .non)) .nil))
def dMove : Df := ⟨3, 6, [false, false, false], bMove⟩
theorem ltr_inj {a b : Nat} : decide (ltr a = ltr b) = decide (a = b) := by
  unfold ltr
  by_cases h : a = b
  · subst h; simp
  · rw [decide_eq_false h, decide_eq_false]
    intro e
    injection e with e
    have := congrArg (fun x => x[0]!) e
    exact h (by simpa using this)
def mvO : Option Mv → D | none => .non | some m => .tup [.int m.2.1, .tup (m.2.2.map rowD)]
theorem move_ok {f : Nat} (hf : tb.defs[f]? = some dMove) {kk : Nat} {sts : List Stt} {s : Nat} (hs : s < sts.length) {c : Nat}
    (k : G (.d (mvO (findMv sts[s].1 c))) h) : Vc (run tb wf (n + 1) f [.d (machD kk sts), .d (.int s), .d (sgD c)] h) G ⟨⟩ := by
  refine vc_run hf rfl ?_
  show V (ex _ _ _ bMove ⟨[.d (machD kk sts), .d (.int s), .d (sgD c), .hole, .hole, .hole], h⟩) _ _
  unfold bMove machD
  sizeOf_list_dec
  refine atI_mapD (by omega) (by omega) ?_
  simp only [Int.toNat_natCast]
  unfold stD
  sizeOf_list_dec
  refine v_for (fun j s' => ∃ o3 o4 o5, findMv (sts[s].1.take j) c = none ∧ s' = ⟨[.d (.tup [.int kk, .tup (sts.map stD)]), .d (.int s), .d (sgD c), o3, o4, o5], h⟩) ⟨.hole, .hole, .hole, rfl, rfl⟩ ?_ ?_
  · rintro j s' hj ⟨o3, o4, o5, hn, rfl⟩
    rw [List.length_map] at hj
    rw [List.getElem_map]
    obtain ⟨et, ef⟩ := find_take (ms := sts[s].1) hj hn
    unfold mvD sgD
    array_get_dec
    rw [ltr_inj]
    refine br (fun he => ?_) (fun he => ?_)
    · have he := of_decide_eq_true he
      sizeOf_list_dec
      rw [ef he] at k
      exact k
    · have he := of_decide_eq_false he
      sizeOf_list_dec
      refine ⟨_, _, _, ?_, rfl⟩
      rw [et, if_neg (by simpa using he)]
  · rintro s' ⟨o3, o4, o5, hn, rfl⟩
    rw [List.length_map, List.take_length] at hn
    sizeOf_list_dec
    rw [hn] at k
    exact k
end
section
set_option maxHeartbeats 4000000
/-! Lw, part 26: what a text does from a state -/
open PySem
variable {tb : Tab} {wf n : Nat} {G : O → List O → Prop} {h : List O}
def led (sts : List Stt) : List Nat → Nat → Nat → List (List Ct) → Option (Nat × List (List Ct))
  | [], _, s, full => some (s, full)
  | c :: r, p, s, full => match findMv (sts.getD s ([], none)).1 c with
    | none => none
    | some m => led sts r (p + 1) m.2.1 (m.2.2.map (pour full p))
def ledD : Option (Nat × List (List Ct)) → D
  | none => .non
  | some (s, full) => .tup [.int s, .tup (full.map cnD)]
def init (k : Nat) : List (List Ct) := (List.range k).map fun d => [.k d]
def tot (full : List (List Ct)) : Nat := (full.map (·.length)).sum
theorem pour_len {full : List (List Ct)} {pl : Int} : ∀ {row : List It}, (pour full pl row).length = (lts row).length + ((drs row).map fun d => (full.getD d []).length).sum
  | [] => rfl
  | .s c :: r => by
    have := pour_len (full := full) (pl := pl) (row := r)
    unfold pour lts drs at *
    simp only [List.flatMap_cons, List.length_append, pour1, List.length_cons, List.length_nil, List.filterMap_cons, List.length_cons, List.length_nil] at *
    omega
  | .k d :: r => by
    have := pour_len (full := full) (pl := pl) (row := r)
    unfold pour lts drs at *
    simp only [List.flatMap_cons, List.length_append, pour1, List.filterMap_cons, List.map_cons, List.sum_cons] at *
    omega
theorem sum_rows {full : List (List Ct)} {pl : Int} {b : Nat} : ∀ {rows : List (List It)}, (∀ row ∈ rows, (lts row).length ≤ b) → tot (rows.map (pour full pl)) ≤ rows.length * b + ((rows.flatMap drs).map fun d => (full.getD d []).length).sum
  | [], _ => by simp [tot]
  | row :: rows, h => by
    have h1 := sum_rows (full := full) (pl := pl) (rows := rows) fun r hr => h r (List.mem_cons_of_mem _ hr)
    have h2 := h row (List.mem_cons_self ..)
    have h3 := pour_len (full := full) (pl := pl) (row := row)
    unfold tot at *
    simp only [List.map_cons, List.sum_cons, List.flatMap_cons, List.map_append, List.sum_append, List.length_cons, Nat.add_mul, Nat.one_mul] at *
    omega
theorem sum_range (full : List (List Ct)) : ((List.range full.length).map fun d => (full.getD d []).length).sum = tot full := by
  unfold tot
  congr 1
  apply List.ext_getElem
  · simp
  · intro i h1 h2
    simp only [List.length_map, List.length_range] at h1
    simp [h1]
theorem tot_step {full : List (List Ct)} {pl : Int} {k : Nat} {tells : List Nat} {rows : List (List It)} (hf : full.length = k) (hr : RowsOk k tells rows) : tot (rows.map (pour full pl)) ≤ tot full + k * (2 * (k + 1)) := by
  obtain ⟨h1, ⟨lost, p⟩, h3⟩ := hr
  have a := sum_rows (full := full) (pl := pl) (b := 2 * (k + 1)) fun row hrow => (h3 row hrow).1
  have b := (p.map fun d => (full.getD d []).length).sum_nat
  rw [← hf, sum_range, List.map_append, List.sum_append] at b
  rw [h1] at a
  omega
theorem mem_tot {full : List (List Ct)} {c : List Ct} (h : c ∈ full) : c.length ≤ tot full := by
  unfold tot
  induction full with
  | nil => cases h
  | cons a r ih =>
    rw [List.map_cons, List.sum_cons]
    rcases List.mem_cons.mp h with rfl | h
    · omega
    · have := ih h; omega
theorem rows_drs {k : Nat} {tells : List Nat} {rows : List (List It)} (hr : RowsOk k tells rows) {row : List It} (h : row ∈ rows) {d : Nat} (hd : d ∈ drs row) : d < k := by
  obtain ⟨h1, ⟨lost, p⟩, h3⟩ := hr
  exact List.mem_range.mp (p.mem_iff.mp (List.mem_append_left _ (List.mem_flatMap.mpr ⟨row, h, hd⟩)))
theorem signs_tx {cs : List Nat} : signs (tx cs) = cs.map sgD := rfl
theorem numbered_at2 {xs : List D} {j : Nat} (h : j < (numbered xs).length) : (numbered xs)[j] = .tup [.int (j : Nat), xs[j]'(by simpa [numbered] using h)] := by simp [numbered]
theorem numbered_len2 {xs : List D} : (numbered xs).length = xs.length := by simp [numbered]
theorem notTup_s {x : Str} : notTup (.str x) = true := rfl
theorem find_mem {ms : List Mv} {c : Nat} {m : Mv} (h : findMv ms c = some m) : m ∈ ms := List.mem_of_find?_eq_some h
def MachAll (k : Nat) (reads tells : List Nat) (sts : List Stt) : Prop := ∀ st ∈ sts, SttOk reads tells sts.length k st
theorem init_tot {k : Nat} : tot (init k) = k := by
  unfold tot init
  rw [List.map_map]
  have : ((fun x => x.length) ∘ fun d => [Ct.k d] : Nat → Nat) = fun _ => 1 := rfl
  rw [this]
  induction k with
  | zero => rfl
  | succ k ih => rw [List.range_succ, List.map_append, List.sum_append, ih]; rfl
def bLed (mv po : Nat) : S := (.sq (.asg (.var 3) (.var 1)) (.sq (.asg (.var 4) (.blt .tup (.cons (.comp (.tup (.cons (.var 9) .nil)) (.var 9) (.rng1 (.idx (.var 0) (.con (.int 0)))) (.con (.bl true)) [9]) .nil))) (.sq (.for (.tup (.cons (.var 5) (.cons (.var 6) .nil))) (.enm (.var 2)) (.sq (.asg (.var 7) (.call mv (.cons (.var 0) (.cons (.var 3) (.cons (.var 6) .nil))))) (.sq (.ite (.cmp .isN (.var 7) (.con .non)) (.sq (.ret (.con .non)) .nil) .nil) (.sq (.asg (.tup (.cons (.var 3) (.cons (.var 8) .nil))) (.var 7)) (.sq (.asg (.var 4) (.blt .tup (.cons (.comp (.call po (.cons (.var 10) (.cons (.var 4) (.cons (.var 5) .nil)))) (.var 10) (.seq (.var 8)) (.con (.bl true)) [10]) .nil))) .nil))))) (.sq (.ret (.tup (.cons (.var 3) (.cons (.var 4) .nil)))) .nil))))
def dLed (mv po : Nat) : Df := ⟨3, 11, [false, false, false], bLed mv po⟩
theorem led_ok {mv po f : Nat} (hm : tb.defs[mv]? = some dMove) (hp : tb.defs[po]? = some dPour) (hf : tb.defs[f]? = some (dLed mv po)) {kk : Nat} {sts : List Stt} {reads tells : List Nat} (ok : MachAll kk reads tells sts) (hk : kk ≤ 10) {s : Nat} (hs : s < sts.length) {cs : List Nat} (hc : cs.length ≤ 1000)
    (k : G (.d (ledD (led sts cs 0 s (init kk)))) h) : Vc (run tb wf (n + 2) f [.d (machD kk sts), .d (.int s), .d (.str (tx cs))] h) G ⟨⟩ := by
  refine vc_run hf rfl ?_
  show V (ex _ _ _ (bLed mv po) ⟨[.d (machD kk sts), .d (.int s), .d (.str (tx cs)), .hole, .hole, .hole, .hole, .hole, .hole, .hole, .hole], h⟩) _ _
  unfold bLed
  have hkk : kk * (2 * (kk + 1)) ≤ 220 := by
    have := Nat.mul_le_mul hk (show 2 * (kk + 1) ≤ 22 by omega)
    omega
  rw [show machD kk sts = .tup [.int kk, .tup (sts.map stD)] from rfl]
  sizeOf_list_dec
  refine ⟨by simp [rngOk]; omega, ?_⟩
  refine v_compR (fun j acc s' => ∃ o, acc = (List.range j).map (fun d => cnD [.k d]) ∧ s' = ⟨[.d (.tup [.int kk, .tup (sts.map stD)]), .d (.int s), .d (.str (tx cs)), .d (.int s), .hole, .hole, .hole, .hole, .hole, o, .hole], h⟩) ⟨.hole, rfl, rfl⟩ ?_ ?_
  · rintro j acc s' hj ⟨o, rfl, rfl⟩
    sizeOf_list_dec
    refine ⟨by rw [List.length_map, List.length_range]; unfold sizeLine; omega, .d (.int j), ?_, rfl⟩
    rw [List.range_succ, List.map_append]
    rfl
  rintro acc s' ⟨o, rfl, rfl⟩
  sizeOf_list_dec
  refine ⟨notTup_s, ?_⟩
  rw [signs_tx]
  refine v_for (fun j s' => ∃ (s1 : Nat) (full : List (List Ct)) (o5 o6 o7 o8 : O), led sts (cs.drop j) j s1 full = led sts cs 0 s (init kk) ∧ s1 < sts.length ∧ full.length = kk ∧ tot full ≤ kk + j * 220 ∧ s' = ⟨[.d (.tup [.int kk, .tup (sts.map stD)]), .d (.int s), .d (.str (tx cs)), .d (.int s1), .d (.tup (full.map cnD)), o5, o6, o7, o8, .hole, .hole], h⟩) ?_ ?_ ?_
  · refine ⟨s, init kk, .hole, .hole, .hole, .hole, rfl, hs, by simp [init], by rw [init_tot]; omega, ?_⟩
    simp [init]
  · rintro j s' hj ⟨s1, full, o5, o6, o7, o8, hl, hs1, hfl, ht, rfl⟩
    rw [numbered_at2]
    rw [numbered_len2, List.length_map] at hj
    rw [List.getElem_map]
    have hd : cs.drop j = cs[j] :: cs.drop (j + 1) := List.drop_eq_getElem_cons hj
    sizeOf_list_dec
    refine move_ok hm (kk := kk) hs1 ?_
    have hst : sts.getD s1 ([], none) = sts[s1] := by simp [hs1]
    rw [hd, led, hst] at hl
    cases hfm : findMv sts[s1].1 cs[j] with
    | none =>
      rw [hfm] at hl
      simp only [mvO]
      array_get_dec
      rw [← hl] at k
      exact k
    | some m =>
      rw [hfm] at hl
      dsimp only at hl
      obtain ⟨g, m1, rows⟩ := m
      obtain ⟨hmg, hrows⟩ := (ok _ (List.getElem_mem hs1)).2.1 _ (find_mem hfm)
      dsimp only at hmg hrows
      simp only [mvO]
      array_get_dec
      have hstep := tot_step (pl := (j : Int)) hfl hrows
      refine v_compL (fun u acc s' => ∃ o, acc = (rows.take u).map (fun row => cnD (pour full j row)) ∧ s' = ⟨[.d (.tup [.int kk, .tup (sts.map stD)]), .d (.int s), .d (.str (tx cs)), .d (.int m1), .d (.tup (full.map cnD)), .d (.int j), .d (sgD cs[j]), .d (.tup [.int m1, .tup (rows.map rowD)]), .d (.tup (rows.map rowD)), .hole, o], h⟩) ⟨.hole, rfl, rfl⟩ ?_ ?_
      · rintro u acc s' hu ⟨o, rfl, rfl⟩
        rw [List.length_map] at hu
        rw [List.getElem_map]
        sizeOf_list_dec
        have hmem : rows[u] ∈ rows := List.getElem_mem hu
        have hpl : (pour full j rows[u]).length ≤ tot (rows.map (pour full j)) := mem_tot (List.mem_map.mpr ⟨_, hmem, rfl⟩)
        refine pour_ok hp (.inl rfl) (fun d hd => by rw [hfl]; exact rows_drs hrows hmem hd) (by omega) ?_
        unfold cnD
        sizeOf_list_dec
        refine ⟨by rw [List.length_map, List.length_take]; have := hrows.1; unfold sizeLine; omega, .d (rowD rows[u]), ?_, rfl⟩
        rw [List.take_add_one, List.getElem?_eq_getElem hu, List.map_append]
        rfl
      · rintro acc s' ⟨o, ha, rfl⟩
        rw [List.length_map, List.take_length] at ha
        subst ha
        sizeOf_list_dec
        refine ⟨m1, rows.map (pour full j), .d (.int j), .d (sgD cs[j]), .d (.tup [.int m1, .tup (rows.map rowD)]), .d (.tup (rows.map rowD)), hl, hmg, by rw [List.length_map]; exact hrows.1, by omega, ?_⟩
        rw [List.map_map]
        rfl
  · rintro s' ⟨s1, full, o5, o6, o7, o8, hl, hs1, hfl, ht, rfl⟩
    rw [numbered_len2, List.length_map] at hl
    rw [List.drop_length, led] at hl
    sizeOf_list_dec
    rw [← hl] at k
    exact k
def bPiece (f : Nat) : S := (.sq (.ret (.blt .tup (.cons (.comp (.call f (.cons (.var 0) (.cons (.var 2) (.cons (.var 1) .nil)))) (.var 2) (.rng1 (.blt .len (.cons (.idx (.var 0) (.con (.int 1))) .nil))) (.con (.bl true)) [2]) .nil))) .nil)
def dPiece (f : Nat) : Df := ⟨2, 3, [false, false], bPiece f⟩
/-- the piece of a text -/
def pieceD (kk : Nat) (sts : List Stt) (cs : List Nat) : D := .tup ((List.range sts.length).map fun s => ledD (led sts cs 0 s (init kk)))
theorem piece_ok {mv po l f : Nat} (hm : tb.defs[mv]? = some dMove) (hp : tb.defs[po]? = some dPour) (hl : tb.defs[l]? = some (dLed mv po)) (hf : tb.defs[f]? = some (dPiece l)) {kk : Nat} {sts : List Stt} {reads tells : List Nat} (ok : MachAll kk reads tells sts) (hk : kk ≤ 10) (hS : sts.length ≤ 1000) {cs : List Nat} (hc : cs.length ≤ 1000)
    (k : G (.d (pieceD kk sts cs)) h) : Vc (run tb wf (n + 3) f [.d (machD kk sts), .d (.str (tx cs))] h) G ⟨⟩ := by
  refine vc_run hf rfl ?_
  show V (ex _ _ _ (bPiece l) ⟨[.d (machD kk sts), .d (.str (tx cs)), .hole], h⟩) _ _
  unfold bPiece
  rw [show machD kk sts = .tup [.int kk, .tup (sts.map stD)] from rfl]
  sizeOf_list_dec
  rw [List.length_map]
  refine ⟨by simp [rngOk]; omega, ?_⟩
  refine v_compR (fun j acc s' => ∃ o, acc = (List.range j).map (fun s => ledD (led sts cs 0 s (init kk))) ∧ s' = ⟨[.d (.tup [.int kk, .tup (sts.map stD)]), .d (.str (tx cs)), o], h⟩) ⟨.hole, rfl, rfl⟩ ?_ ?_
  · rintro j acc s' hj ⟨o, rfl, rfl⟩
    sizeOf_list_dec
    refine led_ok hm hp hl ok hk hj hc ?_
    sizeOf_list_dec
    refine ⟨by rw [List.length_map, List.length_range]; unfold sizeLine; omega, .d (.int j), ?_, rfl⟩
    rw [List.range_succ, List.map_append]
    rfl
  · rintro acc s' ⟨o, rfl, rfl⟩
    sizeOf_list_dec
    exact k
end
section
set_option maxHeartbeats 4000000
/-! Lw, part 27: what a text does from a state, as the law reckons -/
open PySem
variable {tb : Tab} {wf n : Nat} {G : O → List O → Prop} {h : List O}
def bFrom (po : Nat) : S := (.sq (.asg (.var 3) (.comp (.tup (.cons (.var 6) .nil)) (.var 6) (.rng1 (.idx (.var 0) (.con (.int 0)))) (.con (.bl true)) [6])) (.sq (.for (.var 4) (.rng1 (.blt .len (.cons (.var 2) .nil))) (.sq (.asg (.var 5) (.comp (.var 7) (.var 7) (.seq (.idx (.idx (.idx (.var 0) (.con (.int 1))) (.var 1)) (.con (.int 0)))) (.cmp .eq (.idx (.var 7) (.con (.int 0))) (.idx (.var 2) (.var 4))) [7])) (.sq (.ite (.cmp .eq (.var 5) (.lst .nil)) (.sq (.ret (.con .non)) .nil) .nil) (.sq (.asg (.var 3) (.comp (.call po (.cons (.var 8) (.cons (.var 3) (.cons (.var 4) .nil)))) (.var 8) (.seq (.idx (.idx (.var 5) (.con (.int 0))) (.con (.int 2)))) (.con (.bl true)) [8])) (.sq (.asg (.var 1) (.idx (.idx (.var 5) (.con (.int 0))) (.con (.int 1)))) .nil))))) (.sq (.ret (.tup (.cons (.var 1) (.cons (.blt .tup (.cons (.var 3) .nil)) .nil)))) .nil)))
def dFrom (po : Nat) : Df := ⟨3, 9, [false, false, false], bFrom po⟩
theorem dk_ltr {k c : Nat} (h : isL c) : dk k (sgD c) := by
  have : PyData.strOk (ltr c) = true := by
    unfold isL at h
    have h2 : c < 1114112 := by omega
    simp [PyData.strOk, ltr, h2]
  cases k <;> exact this
theorem dk_it {k : Nat} {it : It} (h : ∀ c, it = .s c → isL c) : dk k (itD it) := by
  cases it with
  | s c => exact dk_ltr (h c rfl)
  | k d => cases k <;> trivial
theorem dk_row {k : Nat} {row : List It} (h : ∀ c ∈ lts row, isL c) : dk (k + 1) (rowD row) := by
  intro x hx
  obtain ⟨it, hit, rfl⟩ := List.mem_map.mp hx
  refine dk_it fun c e => h c ?_
  subst e
  exact List.mem_filterMap.mpr ⟨_, hit, rfl⟩
theorem dk_mv {k : Nat} {m : Mv} (h1 : isL m.1) (h : ∀ row ∈ m.2.2, ∀ c ∈ lts row, isL c) : dk (k + 3) (mvD m) := by
  intro x hx
  simp only [List.mem_cons, List.not_mem_nil, or_false] at hx
  rcases hx with rfl | rfl | rfl
  · exact dk_ltr h1
  · trivial
  · intro y hy
    obtain ⟨row, hrow, rfl⟩ := List.mem_map.mp hy
    exact dk_row (h row hrow)
theorem tx_at {cs : List Nat} {z : Int} {K : D → Prop} (h0 : 0 ≤ z) (h1 : z < cs.length) (hl : cs.length ≤ 16777216) (k : K (sgD (cs[z.toNat]'(by omega)))) : X (getIdx (.d (.str (tx cs))) (.d (.int z))) K ⟨⟩ := by
  refine ⟨_, ?_, k⟩
  show (if line (tx cs).length then (L2.atI (tx cs).cps.toList z).map fun c => D.str ⟨#[c]⟩ else none) = _
  have e : (tx cs).length = cs.length := by simp [tx, Str.length]
  rw [show line (tx cs).length = true from by rw [line_eq, e]; exact hl, if_pos rfl]
  have e2 : (tx cs).cps.toList = cs := by simp [tx]
  rw [e2]
  unfold L2.atI L2.ixN
  rw [if_pos h0, if_pos h1]
  simp [sgD, ltr, show z.toNat < cs.length from by omega]
theorem find_filter {ms : List Mv} {c : Nat} : findMv ms c = (ms.filter fun m => m.1 == c).head? := by
  unfold findMv; rw [List.head?_filter]
theorem from_ok {po f : Nat} (hp : tb.defs[po]? = some dPour) (hf : tb.defs[f]? = some (dFrom po)) {kk : Nat} {sts : List Stt} {reads tells : List Nat} (ok : MachAll kk reads tells sts) (hrl : ∀ c ∈ reads, isL c) (htl : ∀ c ∈ tells, isL c) (hrn : reads.length ≤ 26) (hk : kk ≤ 10) {s : Nat} (hs : s < sts.length) {cs : List Nat} (hc : cs.length ≤ 1000)
    (k : G (.d (ledD (led sts cs 0 s (init kk)))) h) : Vc (run tb wf (n + 2) f [.d (machD kk sts), .d (.int s), .d (.str (tx cs))] h) G ⟨⟩ := by
  refine vc_run hf rfl ?_
  show V (ex _ _ _ (bFrom po) ⟨[.d (machD kk sts), .d (.int s), .d (.str (tx cs)), .hole, .hole, .hole, .hole, .hole, .hole], h⟩) _ _
  unfold bFrom
  have hkk : kk * (2 * (kk + 1)) ≤ 220 := by
    have := Nat.mul_le_mul hk (show 2 * (kk + 1) ≤ 22 by omega)
    omega
  have etx : (tx cs).length = cs.length := by simp [tx, Str.length]
  rw [show machD kk sts = .tup [.int kk, .tup (sts.map stD)] from rfl]
  sizeOf_list_dec
  refine ⟨by simp [rngOk]; omega, ?_⟩
  refine v_compR (fun j acc s' => ∃ o, acc = (List.range j).map (fun d => cnD [.k d]) ∧ s' = ⟨[.d (.tup [.int kk, .tup (sts.map stD)]), .d (.int s), .d (.str (tx cs)), .hole, .hole, .hole, o, .hole, .hole], h⟩) ⟨.hole, rfl, rfl⟩ ?_ ?_
  · rintro j acc s' hj ⟨o, rfl, rfl⟩
    sizeOf_list_dec
    refine ⟨by rw [List.length_map, List.length_range]; unfold sizeLine; omega, .d (.int j), ?_, rfl⟩
    rw [List.range_succ, List.map_append]
    rfl
  rintro acc s' ⟨o, rfl, rfl⟩
  sizeOf_list_dec
  rw [etx]
  refine ⟨by omega, by simp [rngOk]; omega, ?_⟩
  sizeOf_list_dec
  refine v_forR (fun j s' => ∃ (s1 : Nat) (full : List (List Ct)) (o4 o5 : O), led sts (cs.drop j) j s1 full = led sts cs 0 s (init kk) ∧ s1 < sts.length ∧ full.length = kk ∧ tot full ≤ kk + j * 220 ∧ s' = ⟨[.d (.tup [.int kk, .tup (sts.map stD)]), .d (.int s1), .d (.str (tx cs)), .lst (full.map cnD), o4, o5, .hole, .hole, .hole], h⟩) ?_ ?_ ?_
  · refine ⟨s, init kk, .hole, .hole, rfl, hs, by simp [init], by rw [init_tot]; omega, ?_⟩
    simp [init]
  · rintro j s' hj ⟨s1, full, o4, o5, hl, hs1, hfl, ht, rfl⟩
    have hd : cs.drop j = cs[j] :: cs.drop (j + 1) := List.drop_eq_getElem_cons hj
    have hst : sts.getD s1 ([], none) = sts[s1] := by simp [hs1]
    have okst := ok _ (List.getElem_mem hs1)
    have hml : sts[s1].1.length ≤ 26 := by
      have := okst.1.length_le
      rw [List.length_map] at this
      omega
    rw [hd, led, hst, find_filter] at hl
    sizeOf_list_dec
    refine atI_mapD (by omega) (by omega) ?_
    simp only [Int.toNat_natCast]
    rw [show stD sts[s1] = .tup [.tup (sts[s1].1.map mvD), endD sts[s1].2] from rfl]
    sizeOf_list_dec
    refine v_compL (fun u acc s' => ∃ o, acc = ((sts[s1].1.take u).filter fun m => m.1 == cs[j]).map mvD ∧ s' = ⟨[.d (.tup [.int kk, .tup (sts.map stD)]), .d (.int s1), .d (.str (tx cs)), .lst (full.map cnD), .d (.int j), o5, .hole, o, .hole], h⟩) ⟨.hole, rfl, rfl⟩ ?_ ?_
    · rintro u acc s' hu ⟨o, rfl, rfl⟩
      rw [List.length_map] at hu
      rw [List.getElem_map]
      rw [show mvD (sts[s1].1[u]) = .tup [.str (ltr (sts[s1].1[u]).1), .int (sts[s1].1[u]).2.1, .tup ((sts[s1].1[u]).2.2.map rowD)] from rfl]
      sizeOf_list_dec
      refine tx_at (by omega) (by omega) (by omega) ?_
      simp only [Int.toNat_natCast]
      rw [show sgD cs[j] = .str (ltr cs[j]) from rfl]
      sizeOf_list_dec
      rw [ltr_inj]
      have et : ((sts[s1].1.take (u + 1)).filter fun m => m.1 == cs[j]) = ((sts[s1].1.take u).filter fun m => m.1 == cs[j]) ++ if (sts[s1].1[u]).1 == cs[j] then [sts[s1].1[u]] else [] := by
        rw [List.take_add_one, List.getElem?_eq_getElem hu, List.filter_append]
        simp only [Option.toList_some, List.filter_cons, List.filter_nil]
      refine br (fun he => ?_) (fun he => ?_)
      · have he := of_decide_eq_true he
        sizeOf_list_dec
        have hlf := List.length_filter_le (fun m : Mv => m.1 == cs[j]) (sts[s1].1.take u)
        rw [List.length_take] at hlf
        refine ⟨by rw [List.length_map]; unfold sizeLine; omega, _, ?_, rfl⟩
        rw [et, if_pos (by simpa using he), List.map_append]
        rfl
      · have he := of_decide_eq_false he
        refine ⟨_, ?_, rfl⟩
        rw [et, if_neg (by simpa using he), List.append_nil]
    rintro acc s' ⟨o, ha, rfl⟩
    rw [List.length_map, List.take_length] at ha
    subst ha
    have hfm : ∀ m ∈ sts[s1].1.filter (fun m => m.1 == cs[j]), m ∈ sts[s1].1 := fun m hm => (List.mem_filter.mp hm).1
    generalize sts[s1].1.filter (fun m => m.1 == cs[j]) = some at hl hfm ⊢
    sizeOf_list_dec
    array_get_dec
    rw [x_eqN (fun x hx => by
      obtain ⟨m, hm, rfl⟩ := List.mem_map.mp hx
      refine dk_mv (hrl _ (okst.1.subset (List.mem_map.mpr ⟨m, hfm m hm, rfl⟩))) fun row hrow c hc => htl c (((okst.2.1 m (hfm m hm)).2.2.2 row hrow).2 c hc))]
    cases some with
    | nil =>
      simp only [List.map_nil, List.isEmpty_nil]
      rw [← hl] at k
      sizeOf_list_dec
      exact k
    | cons m r =>
      obtain ⟨g, m1, rows⟩ := m
      obtain ⟨hmg, hrows⟩ := okst.2.1 _ (hfm _ (List.mem_cons_self ..))
      dsimp only [List.head?_cons] at hl hmg hrows
      have hstep := tot_step (pl := (j : Int)) hfl hrows
      rw [List.map_cons, show mvD (g, m1, rows) = .tup [.str (ltr g), .int m1, .tup (rows.map rowD)] from rfl]
      simp only [List.isEmpty_cons]
      sizeOf_list_dec
      refine v_compL (fun u acc s' => ∃ o o3, acc = (rows.take u).map (fun row => cnD (pour full j row)) ∧ (o3 = .lst (full.map cnD) ∨ o3 = .d (.lst (full.map cnD))) ∧ s' = ⟨[.d (.tup [.int kk, .tup (sts.map stD)]), .d (.int s1), .d (.str (tx cs)), o3, .d (.int j), .lst ((D.tup [.str (ltr g), .int m1, .tup (rows.map rowD)]) :: r.map mvD), .hole, .hole, o], h⟩) ⟨.hole, _, rfl, .inl rfl, rfl⟩ ?_ ?_
      · rintro u acc s' hu ⟨o, o3, rfl, ho3, rfl⟩
        rw [List.length_map] at hu
        rw [List.getElem_map]
        have hmem : rows[u] ∈ rows := List.getElem_mem hu
        have hpl : (pour full j rows[u]).length ≤ tot (rows.map (pour full j)) := mem_tot (List.mem_map.mpr ⟨_, hmem, rfl⟩)
        have fin : ∀ (o3 : O), (o3 = .lst (full.map cnD) ∨ o3 = .d (.lst (full.map cnD))) → ∃ (o o3' : O), (rows.take u).map (fun row => cnD (pour full j row)) ++ [D.tup ((pour full j rows[u]).map ctD)] = (rows.take (u + 1)).map (fun row => cnD (pour full j row)) ∧ (o3' = .lst (full.map cnD) ∨ o3' = .d (.lst (full.map cnD))) ∧ (⟨[.d (.tup [.int kk, .tup (sts.map stD)]), .d (.int s1), .d (.str (tx cs)), o3, .d (.int j), .lst ((D.tup [.str (ltr g), .int m1, .tup (rows.map rowD)]) :: r.map mvD), .hole, .hole, .d (rowD rows[u])], h⟩ : St) = ⟨[.d (.tup [.int kk, .tup (sts.map stD)]), .d (.int s1), .d (.str (tx cs)), o3', .d (.int j), .lst ((D.tup [.str (ltr g), .int m1, .tup (rows.map rowD)]) :: r.map mvD), .hole, .hole, o], h⟩ := by
          intro o3 h3
          refine ⟨_, o3, ?_, h3, rfl⟩
          rw [List.take_add_one, List.getElem?_eq_getElem hu, List.map_append]
          rfl
        rcases ho3 with rfl | rfl
        · sizeOf_list_dec
          rw [fl_of hp]
          unfold dPour
          sizeOf_list_dec
          refine pour_ok hp (.inr rfl) (fun d hd => by rw [hfl]; exact rows_drs hrows hmem hd) (by omega) ?_
          unfold cnD
          sizeOf_list_dec
          refine ⟨by rw [List.length_map, List.length_take]; have := hrows.1; unfold sizeLine; omega, fin _ (.inr rfl)⟩
        · sizeOf_list_dec
          refine pour_ok hp (.inr rfl) (fun d hd => by rw [hfl]; exact rows_drs hrows hmem hd) (by omega) ?_
          unfold cnD
          sizeOf_list_dec
          refine ⟨by rw [List.length_map, List.length_take]; have := hrows.1; unfold sizeLine; omega, fin _ (.inr rfl)⟩
      · rintro acc s' ⟨o, o3, ha, ho3, rfl⟩
        rw [List.length_map, List.take_length] at ha
        subst ha
        sizeOf_list_dec
        refine ⟨m1, rows.map (pour full j), .d (.int j), .lst ((D.tup [.str (ltr g), .int m1, .tup (rows.map rowD)]) :: r.map mvD), hl, hmg, by rw [List.length_map]; exact hrows.1, by omega, ?_⟩
        rw [List.map_map]
        rfl
  · rintro s' ⟨s1, full, o4, o5, hl, hs1, hfl, ht, rfl⟩
    rw [List.drop_length, led] at hl
    sizeOf_list_dec
    rw [← hl] at k
    exact k
end
section
set_option maxHeartbeats 4000000
/-! Lw, part 28: pieces and machines can be shown -/
open PySem
def CtOk (M : Nat) : Ct → Prop | .k d => d < M | .p c pl => isL c ∧ -1 ≤ pl ∧ pl < M
theorem sh_ltr {c : Nat} (h : isL c) : Sh 1 0 (sgD c) := by
  refine sh_str (fun d hd => ?_) (Nat.le_refl _)
  simp [ltr] at hd
  unfold isL at h
  omega
theorem sh_ct {M : Nat} {x : Ct} (hM : M ≤ 100000000) (h : CtOk M x) : Sh 84 1 (ctD x) := by
  cases x with
  | k d =>
    unfold CtOk at h
    exact (sh_int (by omega)).mono (by omega) (by omega)
  | p c pl =>
    obtain ⟨h1, h2, h3⟩ := h
    refine sh_tup (m := 41) (n := 2) (fun x hx => ?_) (by simp) (by omega)
    simp only [List.mem_cons, List.not_mem_nil, or_false] at hx
    rcases hx with rfl | rfl
    · exact (sh_ltr h1).mono (by omega) (by omega)
    · exact sh_int (by omega)
theorem sh_cn {M n : Nat} {c : List Ct} (hM : M ≤ 100000000) (h : ∀ x ∈ c, CtOk M x) (hn : c.length ≤ n) : Sh (n * 85) 2 (cnD c) := by
  refine sh_tup (m := 84) (n := n) (fun x hx => ?_) (by simpa using hn) (by omega)
  obtain ⟨y, hy, rfl⟩ := List.mem_map.mp hx
  exact sh_ct hM (h y hy)
theorem led_some {k : Nat} {reads tells : List Nat} {sts : List Stt} (ok : MachAll k reads tells sts) (htl : ∀ c ∈ tells, isL c) {M : Nat} : ∀ {cs : List Nat} {p s : Nat} {full : List (List Ct)} {s' : Nat} {full' : List (List Ct)}, s < sts.length → full.length = k → (∀ c ∈ full, ∀ x ∈ c, CtOk M x) → p + cs.length ≤ M → led sts cs p s full = some (s', full') →
    s' < sts.length ∧ full'.length = k ∧ (∀ c ∈ full', ∀ x ∈ c, CtOk M x) ∧ tot full' ≤ tot full + cs.length * (k * (2 * (k + 1)))
  | [], p, s, full, s', full', hs, hf, hc, hp, h => by
    simp only [led, Option.some.injEq, Prod.mk.injEq] at h
    obtain ⟨rfl, rfl⟩ := h
    exact ⟨hs, hf, hc, by simp⟩
  | c :: r, p, s, full, s', full', hs, hf, hc, hp, h => by
    rw [led] at h
    have hst : sts.getD s ([], none) = sts[s] := by simp [hs]
    rw [hst] at h
    cases hfm : findMv sts[s].1 c with
    | none => rw [hfm] at h; cases h
    | some m =>
      rw [hfm] at h
      dsimp only at h
      obtain ⟨hmg, hrows⟩ := (ok _ (List.getElem_mem hs)).2.1 _ (find_mem hfm)
      have hstep := tot_step (pl := (p : Int)) hf hrows
      rw [List.length_cons] at hp
      obtain ⟨a, b, d, e⟩ := led_some ok htl (cs := r) (p := p + 1) (full := m.2.2.map (pour full (p : Int))) hmg (by rw [List.length_map]; exact hrows.1) (by
        intro c' hc' x hx
        obtain ⟨row, hrow, rfl⟩ := List.mem_map.mp hc'
        obtain ⟨it, hit, hx⟩ := List.mem_flatMap.mp hx
        cases it with
        | s c2 =>
          simp only [pour1, List.mem_singleton] at hx
          subst hx
          exact ⟨htl c2 ((hrows.2.2 row hrow).2 c2 (List.mem_filterMap.mpr ⟨_, hit, rfl⟩)), (by omega : (-1 : Int) ≤ (p : Int)), (by omega : (p : Int) < (M : Int))⟩
        | k d =>
          have hd := rows_drs hrows hrow (mem_drs hit)
          simp only [pour1] at hx
          rw [show full.getD d [] = full[d]'(by omega) from by simp [hf, hd]] at hx
          exact hc _ (List.getElem_mem _) x hx) (by omega) h
      refine ⟨a, b, d, ?_⟩
      rw [List.length_cons, Nat.add_mul, Nat.one_mul]
      omega
theorem init_ok {k M : Nat} (h : k ≤ M) : ∀ c ∈ init k, ∀ x ∈ c, CtOk M x := by
  intro c hc x hx
  obtain ⟨d, hd, rfl⟩ := List.mem_map.mp hc
  rw [List.mem_singleton.mp hx]
  have := List.mem_range.mp hd
  show d < M
  omega
/-- what a text does from a state can be shown -/
theorem sh_led {k : Nat} {reads tells : List Nat} {sts : List Stt} (ok : MachAll k reads tells sts) (htl : ∀ c ∈ tells, isL c) {cs : List Nat} {s w m1 m2 : Nat} (hs : s < sts.length) (hS : sts.length ≤ 100000) (hk : k ≤ 1000) (hcs : cs.length ≤ 1000000) (hw : k + cs.length * (k * (2 * (k + 1))) ≤ w) (h1 : k * (w * 85 + 1) ≤ m1) (h41 : 41 ≤ m1) (h2 : 2 * (m1 + 1) ≤ m2) : Sh m2 4 (ledD (led sts cs 0 s (init k))) := by
  cases h : led sts cs 0 s (init k) with
  | none => exact sh_non.mono (by omega) (by omega)
  | some x =>
    obtain ⟨s', full'⟩ := x
    obtain ⟨a, b, c, d⟩ := led_some ok htl (M := 10000000) (p := 0) hs (by simp [init]) (init_ok (by omega)) (by omega) h
    rw [init_tot] at d
    refine sh_tup (m := m1) (n := 2) (fun x hx => ?_) (by simp) h2
    simp only [List.mem_cons, List.not_mem_nil, or_false] at hx
    rcases hx with rfl | rfl
    · exact (sh_int (by omega)).mono h41 (by omega)
    · refine sh_tup (m := w * 85) (n := k) (fun x hx => ?_) (by rw [List.length_map]; omega) h1
      obtain ⟨y, hy, rfl⟩ := List.mem_map.mp hx
      exact sh_cn (by omega) (c y hy) (Nat.le_trans (mem_tot hy) (by omega))
theorem sh_row {k : Nat} {row : List It} (hk : k ≤ 1000) (h1 : ∀ d ∈ drs row, d < k) (h2 : ∀ c ∈ lts row, isL c) {n m : Nat} (hn : row.length ≤ n) (hm : n * 42 ≤ m) : Sh m 1 (rowD row) := by
  refine sh_tup (m := 41) (n := n) (fun x hx => ?_) (by simpa using hn) hm
  obtain ⟨it, hit, rfl⟩ := List.mem_map.mp hx
  cases it with
  | s c => exact (sh_ltr (h2 c (List.mem_filterMap.mpr ⟨_, hit, rfl⟩))).mono (by omega) (by omega)
  | k d =>
    have := h1 d (mem_drs hit)
    exact sh_int (by omega)
theorem row_len : ∀ row : List It, row.length = (drs row).length + (lts row).length
  | [] => rfl
  | .s c :: r => by
    have := row_len r
    unfold drs lts at *
    simp only [List.filterMap_cons, List.length_cons] at *
    omega
  | .k c :: r => by
    have := row_len r
    unfold drs lts at *
    simp only [List.filterMap_cons, List.length_cons] at *
    omega
theorem drs_le {k : Nat} {l lost : List Nat} (p : (l ++ lost).Perm (List.range k)) : l.length ≤ k := by
  have := p.length_eq
  rw [List.length_append, List.length_range] at this
  omega
theorem flat_le {row : List It} : ∀ {rows : List (List It)}, row ∈ rows → (drs row).length ≤ (rows.flatMap drs).length
  | r :: rs, h => by
    rw [List.flatMap_cons, List.length_append]
    rcases List.mem_cons.mp h with rfl | h
    · omega
    · have := flat_le h; omega
/-- a machine can be shown -/
theorem sh_mach {k : Nat} {reads tells : List Nat} {sts : List Stt} (ok : MachAll k reads tells sts) (hrl : ∀ c ∈ reads, isL c) (htl : ∀ c ∈ tells, isL c) (hk : k ≤ 1000) (hS : sts.length ≤ 100000) {mr m1 m2 m3 m4 m5 m6 : Nat} (h1 : (3 * k + 2) * 42 ≤ mr) (h2 : k * (mr + 1) ≤ m1) (h3 : 3 * (m1 + 42) ≤ m2) (h4 : reads.length * (m2 + 1) ≤ m3) (h5 : 2 * (m3 + mr + 1) ≤ m4) (h6 : sts.length * (m4 + 1) ≤ m5) (h7 : 2 * (m5 + 42) ≤ m6) : Sh m6 7 (machD k sts) := by
  refine sh_tup (m := m5 + 41) (n := 2) (fun x hx => ?_) (by simp) (by omega)
  simp only [List.mem_cons, List.not_mem_nil, or_false] at hx
  rcases hx with rfl | rfl
  · exact (sh_int (by omega)).mono (by omega) (by omega)
  refine (sh_tup (m := m4) (dep := 5) (n := sts.length) (fun x hx => ?_) (by simp) h6).mono (by omega) (by omega)
  obtain ⟨st, hst, rfl⟩ := List.mem_map.mp hx
  obtain ⟨o1, o2, o3⟩ := ok st hst
  have hml : st.1.length ≤ reads.length := by
    have := o1.length_le
    rwa [List.length_map] at this
  refine sh_tup (m := m3 + mr) (dep := 4) (n := 2) (fun x hx => ?_) (by simp) (by omega)
  simp only [List.mem_cons, List.not_mem_nil, or_false] at hx
  rcases hx with rfl | rfl
  · refine (sh_tup (m := m2) (dep := 3) (n := reads.length) (fun x hx => ?_) (by rw [List.length_map]; exact hml) h4).mono (by omega) (by omega)
    obtain ⟨mv, hmv, rfl⟩ := List.mem_map.mp hx
    obtain ⟨q1, q2⟩ := o2 mv hmv
    refine sh_tup (m := m1 + 41) (dep := 2) (n := 3) (fun x hx => ?_) (by simp) (by omega)
    simp only [List.mem_cons, List.not_mem_nil, or_false] at hx
    rcases hx with rfl | rfl | rfl
    · exact (sh_ltr (hrl _ (o1.subset (List.mem_map.mpr ⟨mv, hmv, rfl⟩)))).mono (by omega) (by omega)
    · exact (sh_int (by omega)).mono (by omega) (by omega)
    · refine (sh_tup (m := mr) (dep := 1) (n := k) (fun x hx => ?_) (by rw [List.length_map, q2.1]; omega) h2).mono (by omega) (by omega)
      obtain ⟨row, hrow, rfl⟩ := List.mem_map.mp hx
      obtain ⟨lost, p⟩ := q2.2.1
      refine sh_row (n := 3 * k + 2) hk (fun d hd => rows_drs q2 hrow hd) (fun c hc => htl c ((q2.2.2 row hrow).2 c hc)) ?_ h1
      rw [row_len]
      have := drs_le p
      have := flat_le hrow
      have := (q2.2.2 row hrow).1
      omega
  · cases he : st.2 with
    | none => exact sh_non.mono (by omega) (by omega)
    | some row =>
      obtain ⟨⟨lost, p⟩, r2, r3⟩ := o3 row he
      refine (sh_row (k := k) (n := 3 * k + 2) hk (fun d hd => List.mem_range.mp (p.mem_iff.mp (List.mem_append_left _ hd))) (fun c hc => htl c (r3 c hc)) ?_ h1).mono (by omega) (by omega)
      rw [row_len]
      have := drs_le p
      omega
end
section
set_option maxHeartbeats 4000000
/-! Lw: readings (runs.py): pour by extend, said, the class Reading, answer -/
open PySem
variable {tb : Tab} {wf n : Nat} {G : O → List O → Prop} {h : List O}
theorem x_extL {xs ys : List D} {K : List D × D → Prop} {t : Tag K} : X (mExtend xs [.lst ys]) K t = (xs.length + ys.length ≤ 16777216 ∧ K (xs ++ ys, .non)) := by
  rw [← line_eq]
  by_cases h : line (xs.length + ys.length) = true <;> simp [X, mExtend, sv, lv, h]
theorem x_extT {xs ys : List D} {K : List D × D → Prop} {t : Tag K} : X (mExtend xs [.d (.tup ys)]) K t = (xs.length + ys.length ≤ 16777216 ∧ K (xs ++ ys, .non)) := by
  rw [← line_eq]
  by_cases h : line (xs.length + ys.length) = true <;> simp [X, mExtend, sv, h]
def bPourE : S := (.sq (.asg (.var 3) (.lst .nil)) (.sq (.for (.var 4) (.seq (.var 0)) (.sq (.expr (.mth .extend (.var 3) (.cons (.ite (.blt .isi (.cons (.var 4) (.cons (.con (.ty "str")) .nil))) (.lst (.cons (.tup (.cons (.var 4) (.cons (.var 2) .nil))) .nil)) (.idx (.var 1) (.var 4))) .nil))) .nil)) (.sq (.ret (.blt .tup (.cons (.var 3) .nil))) .nil)))
def dPourE : Df := ⟨3, 5, [false, false, false], bPourE⟩
theorem pourE_ok {f : Nat} (hf : tb.defs[f]? = some dPourE) {row : List It} {full : List (List Ct)} {pl : Int} {x : D} (hx : isCns x full) (hr : ∀ d ∈ drs row, d < full.length) (hl : (pour full pl row).length ≤ 16777216)
    (k : G (.d (cnD (pour full pl row))) h) : Vc (run tb wf (n + 1) f [.d (rowD row), .d x, .d (.int pl)] h) G ⟨⟩ := by
  refine vc_run hf rfl ?_
  show V (ex _ _ _ bPourE ⟨[.d (rowD row), .d x, .d (.int pl), .hole, .hole], h⟩) _ _
  unfold bPourE rowD
  sizeOf_list_dec
  refine v_for (fun j s => ∃ o, s = ⟨[.d (rowD row), .d x, .d (.int pl), .lst ((pour full pl (row.take j)).map ctD), o], h⟩) ⟨.hole, rfl⟩ ?_ ?_
  · rintro j s hj ⟨o, rfl⟩
    rw [List.length_map] at hj
    have hlen := Nat.le_trans (pour_take_le (full := full) (pl := pl) (row := row) (j := j + 1)) hl
    have e := pour_take (full := full) (pl := pl) hj
    rw [e, List.length_append] at hlen
    rw [e, List.getElem_map]
    have hm : row[j] ∈ row := List.getElem_mem hj
    generalize row[j] = it at hm hlen ⊢
    cases it with
    | s c =>
      simp only [itD, sgD, pour1] at hlen ⊢
      sizeOf_list_dec
      rw [x_extL]
      sizeOf_list_dec
      refine ⟨by simpa using hlen, .d (.str (ltr c)), ?_⟩
      simp [ctD, sgD]
    | k d =>
      have hd := hr d (mem_drs hm)
      have e2 : full.getD d [] = full[d] := by simp [hd]
      simp only [itD, pour1, e2] at hlen ⊢
      rcases hx with rfl | rfl
      · sizeOf_list_dec
        refine atI_mapD (by omega) (by omega) ?_
        simp only [Int.toNat_natCast]
        unfold cnD
        sizeOf_list_dec
        rw [x_extT]
        sizeOf_list_dec
        refine ⟨by simpa using hlen, .d (.int d), ?_⟩
        simp [hd]
      · sizeOf_list_dec
        refine atI_mapD (by omega) (by omega) ?_
        simp only [Int.toNat_natCast]
        unfold cnD
        sizeOf_list_dec
        rw [x_extT]
        sizeOf_list_dec
        refine ⟨by simpa using hlen, .d (.int d), ?_⟩
        simp [hd]
  · rintro s ⟨o, rfl⟩
    rw [List.length_map, List.take_length]
    sizeOf_list_dec
    exact k
/-- contents that are letters with places -/
def AllP (l : List Ct) : Prop := ∀ x ∈ l, ∃ c pl, x = .p c pl
def ltC : Ct → Nat | .p c _ => c | .k d => d
def cnO : Option (List Ct) → D | none => .non | some l => cnD l
def sdO : Option (List Ct) → D | none => .non | some l => .str (tx (l.map ltC))
def bSaid : S := (.sq (.ret (.ite (.cmp .isN (.var 0) (.con .non)) (.con .non) (.mth .join (.con (.str "")) (.cons (.comp (.var 1) (.tup (.cons (.var 1) (.cons (.var 2) .nil))) (.seq (.var 0)) (.con (.bl true)) [1, 2]) .nil)))) .nil)
def dSaid : Df := ⟨1, 3, [false], bSaid⟩
theorem said_ok {f : Nat} (hf : tb.defs[f]? = some dSaid) {o : Option (List Ct)} (hp : ∀ l, o = some l → AllP l ∧ l.length ≤ 10000000) (k : G (.d (sdO o)) h) : Vc (run tb wf (n + 1) f [.d (cnO o)] h) G ⟨⟩ := by
  refine vc_run hf rfl ?_
  show V (ex _ _ _ bSaid ⟨[.d (cnO o), .hole, .hole], h⟩) _ _
  unfold bSaid
  cases o with
  | none =>
    simp only [cnO, sdO] at k ⊢
    sizeOf_list_dec
    exact k
  | some l =>
    obtain ⟨ha, hl⟩ := hp l rfl
    simp only [cnO, sdO, cnD] at k ⊢
    sizeOf_list_dec
    refine v_compL (fun j acc s => ∃ o1 o2, acc = ((l.take j).map ltC).map sgD ∧ s = ⟨[.d (.tup (l.map ctD)), o1, o2], h⟩) ⟨.hole, .hole, rfl, rfl⟩ ?_ ?_
    · rintro j acc s hj ⟨o1, o2, rfl, rfl⟩
      rw [List.length_map] at hj
      rw [List.getElem_map]
      obtain ⟨c, pl, e⟩ := ha _ (List.getElem_mem hj)
      have et : (l.take (j + 1)).map ltC = (l.take j).map ltC ++ [c] := by
        rw [List.take_add_one, List.getElem?_eq_getElem hj, List.map_append, e]
        rfl
      rw [e]
      simp only [ctD, sgD]
      sizeOf_list_dec
      refine ⟨by rw [List.length_map, List.length_map, List.length_take]; unfold sizeLine; omega, _, _, ?_, rfl⟩
      rw [et, List.map_append]
      rfl
    · rintro acc s ⟨o1, o2, ha2, rfl⟩
      rw [List.length_map, List.take_length] at ha2
      subst ha2
      sizeOf_list_dec
      refine x_joinE (by rw [List.length_map]; omega) ?_
      sizeOf_list_dec
      exact k
def bSaidL : S := (.sq (.ret (.ite (.cmp .isN (.var 0) (.con .non)) (.con .non) (.mth .join (.con (.str "")) (.cons (.comp (.idx (.var 1) (.con (.int 0))) (.var 1) (.seq (.var 0)) (.con (.bl true)) [1]) .nil)))) .nil)
def dSaidL : Df := ⟨1, 2, [false], bSaidL⟩
theorem saidL_ok {f : Nat} (hf : tb.defs[f]? = some dSaidL) {o : Option (List Ct)} (hp : ∀ l, o = some l → AllP l ∧ l.length ≤ 10000000) (k : G (.d (sdO o)) h) : Vc (run tb wf (n + 1) f [.d (cnO o)] h) G ⟨⟩ := by
  refine vc_run hf rfl ?_
  show V (ex _ _ _ bSaidL ⟨[.d (cnO o), .hole], h⟩) _ _
  unfold bSaidL
  cases o with
  | none =>
    simp only [cnO, sdO] at k ⊢
    sizeOf_list_dec
    exact k
  | some l =>
    obtain ⟨ha, hl⟩ := hp l rfl
    simp only [cnO, sdO, cnD] at k ⊢
    sizeOf_list_dec
    refine v_compL (fun j acc s => ∃ o1, acc = ((l.take j).map ltC).map sgD ∧ s = ⟨[.d (.tup (l.map ctD)), o1], h⟩) ⟨.hole, rfl, rfl⟩ ?_ ?_
    · rintro j acc s hj ⟨o1, rfl, rfl⟩
      rw [List.length_map] at hj
      rw [List.getElem_map]
      obtain ⟨c, pl, e⟩ := ha _ (List.getElem_mem hj)
      have et : (l.take (j + 1)).map ltC = (l.take j).map ltC ++ [c] := by
        rw [List.take_add_one, List.getElem?_eq_getElem hj, List.map_append, e]
        rfl
      rw [e]
      simp only [ctD, sgD]
      sizeOf_list_dec
      refine ⟨by rw [List.length_map, List.length_map, List.length_take]; unfold sizeLine; omega, _, ?_, rfl⟩
      rw [et, List.map_append]
      rfl
    · rintro acc s ⟨o1, ha2, rfl⟩
      rw [List.length_map, List.take_length] at ha2
      subst ha2
      sizeOf_list_dec
      refine x_joinE (by rw [List.length_map]; omega) ?_
      sizeOf_list_dec
      exact k
/-- a reading: where it is, what the drawers hold, how many letters -/
def spD : Option Nat → D | none => .non | some s => .int s
def rdgO (kk : Nat) (sts : List Stt) (st : Option Nat) (full : List (List Ct)) (t : Nat) : O := .ins 0 [(Str.ofString "read_by", machD kk sts), (Str.ofString "spot", spD st), (Str.ofString "drawers", .tup (full.map cnD)), (Str.ofString "often", .int t)]
def bInit : S := (.sq (.asg (.fld (.var 0) "read_by") (.var 1)) (.sq (.asg (.fld (.var 0) "spot") (.con (.int 0))) (.sq (.asg (.fld (.var 0) "drawers") (.bin .mul (.tup (.cons (.tup .nil) .nil)) (.idx (.var 1) (.con (.int 0))))) (.sq (.asg (.fld (.var 0) "often") (.con (.int 0))) .nil))))
def dInit : Df := ⟨2, 2, [false, false], bInit⟩
theorem x_mulT0 {k : Nat} (hk : k ≤ 1000) {K : O → Prop} {t : Tag K} : X (binop .mul (.d (.tup [.tup []])) (.d (.int k))) K t = K (.d (.tup ((List.replicate k ([] : List Ct)).map cnD))) := by
  have e : (List.replicate k [D.tup []]).flatten = (List.replicate k ([] : List Ct)).map cnD := by
    induction k with
    | zero => rfl
    | succ k ih => rw [List.replicate_succ, List.flatten_cons, ih (by omega)]; rfl
  have c : (decide (0 ≤ (k : Int)) && decide ((k : Int) ≤ 1000) && decide ([D.tup []].length ≤ 1000)) = true := by simp; omega
  simp only [X, binop, bmul, c, if_true, Int.toNat_natCast, e, Option.some.injEq]
  simp
theorem mach_ix0 {k : Nat} {sts : List Stt} {K : D → Prop} {t : Tag K} : X (getIdx (.d (machD k sts)) (.d (.int 0))) K t = K (.int k) := by
  unfold machD
  sizeOf_list_dec
theorem mach_ix1 {k : Nat} {sts : List Stt} {K : D → Prop} {t : Tag K} : X (getIdx (.d (machD k sts)) (.d (.int 1))) K t = K (.tup (sts.map stD)) := by
  unfold machD
  sizeOf_list_dec
theorem initR_ok {f : Nat} (hf : tb.defs[f]? = some dInit) {kk : Nat} {sts : List Stt} (hk : kk ≤ 1000) (k : G (.d .non) (h ++ [rdgO kk sts (some 0) (List.replicate kk []) 0])) :
    Vc (run tb wf (n + 1) f [.d (.ref h.length), .d (machD kk sts)] (h ++ [.ins 0 []])) G ⟨⟩ := by
  refine vc_run hf rfl ?_
  show V (ex _ _ _ bInit ⟨[.d (.ref h.length), .d (machD kk sts)], h ++ [.ins 0 []]⟩) _ _
  unfold bInit
  sizeOf_list_dec
  rw [v_h_nr rfl]
  sizeOf_list_dec
  rw [mach_ix0]
  sizeOf_list_dec
  rw [x_mulT0 hk]
  sizeOf_list_dec
  exact k
end
section
set_option maxHeartbeats 4000000
/-! Lw: readings (runs.py), the steps -/
open PySem
variable {tb : Tab} {wf n : Nat} {G : O → List O → Prop} {h hb : List O}
def bStep (mv po : Nat) : S := (.sq (.asg (.var 2) (.call mv (.cons (.fld (.var 0) "read_by") (.cons (.fld (.var 0) "spot") (.cons (.var 1) .nil))))) (.sq (.ite (.cmp .isN (.var 2) (.con .non)) (.sq (.asg (.fld (.var 0) "spot") (.con .non)) (.sq .retN .nil)) .nil) (.sq (.asg (.tup (.cons (.fld (.var 0) "spot") (.cons (.var 3) .nil))) (.var 2)) (.sq (.asg (.fld (.var 0) "drawers") (.blt .tup (.cons (.comp (.call po (.cons (.var 4) (.cons (.fld (.var 0) "drawers") (.cons (.fld (.var 0) "often") .nil)))) (.var 4) (.seq (.var 3)) (.con (.bl true)) [4]) .nil))) (.sq (.augF (.var 0) "often" .add (.con (.int 1))) .nil)))))
def dStep (mv po : Nat) : Df := ⟨2, 5, [false, false], bStep mv po⟩
/-- a reading behind one more letter -/
def stepO (kk : Nat) (sts : List Stt) (s : Nat) (full : List (List Ct)) (t : Nat) (c : Nat) : O := match findMv (sts.getD s ([], none)).1 c with
  | none => rdgO kk sts none full t
  | some m => rdgO kk sts (some m.2.1) (m.2.2.map (pour full (t : Int))) (t + 1)
theorem step_ok {mv po f : Nat} (hm : tb.defs[mv]? = some dMove) (hp : tb.defs[po]? = some dPourE) (hf : tb.defs[f]? = some (dStep mv po)) {kk : Nat} {sts : List Stt} {reads tells : List Nat} (ok : MachAll kk reads tells sts) (hk : kk ≤ 10) {s : Nat} (hs : s < sts.length) {full : List (List Ct)} (hfl : full.length = kk) {t : Nat} (ht : tot full ≤ 1000000) {c : Nat}
    (k : G (.d .non) (h ++ (stepO kk sts s full t c) :: hb)) : Vc (run tb wf (n + 2) f [.d (.ref h.length), .d (sgD c)] (h ++ (rdgO kk sts (some s) full t) :: hb)) G ⟨⟩ := by
  refine vc_run hf rfl ?_
  show V (ex _ _ _ (bStep mv po) ⟨[.d (.ref h.length), .d (sgD c), .hole, .hole, .hole], h ++ (rdgO kk sts (some s) full t) :: hb⟩) _ _
  have hkk : kk * (2 * (kk + 1)) ≤ 220 := by
    have := Nat.mul_le_mul hk (show 2 * (kk + 1) ≤ 22 by omega)
    omega
  have hst : sts.getD s ([], none) = sts[s] := by simp [hs]
  unfold bStep rdgO
  unfold stepO at k
  rw [hst] at k
  simp only [spD]
  sizeOf_list_dec
  refine move_ok hm (kk := kk) hs ?_
  cases hfm : findMv sts[s].1 c with
  | none =>
    rw [hfm] at k
    simp only [mvO]
    sizeOf_list_dec
    array_get_dec
    exact k
  | some m =>
    rw [hfm] at k
    obtain ⟨g, m1, rows⟩ := m
    obtain ⟨hmg, hrows⟩ := (ok _ (List.getElem_mem hs)).2.1 _ (find_mem hfm)
    dsimp only at hmg hrows k
    have hstep := tot_step (pl := (t : Int)) hfl hrows
    simp only [mvO]
    array_get_dec
    refine v_compL (fun u acc s' => ∃ o, acc = (rows.take u).map (fun row => cnD (pour full t row)) ∧ s' = ⟨[.d (.ref h.length), .d (sgD c), .d (.tup [.int m1, .tup (rows.map rowD)]), .d (.tup (rows.map rowD)), o], h ++ (.ins 0 [(Str.ofString "read_by", machD kk sts), (Str.ofString "spot", .int m1), (Str.ofString "drawers", .tup (full.map cnD)), (Str.ofString "often", .int t)]) :: hb⟩) ⟨.hole, rfl, rfl⟩ ?_ ?_
    · rintro u acc s' hu ⟨o, rfl, rfl⟩
      rw [List.length_map] at hu
      rw [List.getElem_map]
      sizeOf_list_dec
      have hmem : rows[u] ∈ rows := List.getElem_mem hu
      have hpl : (pour full t rows[u]).length ≤ tot (rows.map (pour full t)) := mem_tot (List.mem_map.mpr ⟨_, hmem, rfl⟩)
      refine pourE_ok hp (.inl rfl) (fun d hd => by rw [hfl]; exact rows_drs hrows hmem hd) (by omega) ?_
      unfold cnD
      sizeOf_list_dec
      refine ⟨by rw [List.length_map, List.length_take]; have := hrows.1; unfold sizeLine; omega, .d (rowD rows[u]), ?_, rfl⟩
      rw [List.take_add_one, List.getElem?_eq_getElem hu, List.map_append]
      rfl
    · rintro acc s' ⟨o, ha, rfl⟩
      rw [List.length_map, List.take_length] at ha
      subst ha
      sizeOf_list_dec
      unfold rdgO at k
      rw [List.map_map] at k
      exact k
def bFeed : S := (.sq (.for (.var 2) (.seq (.var 1)) (.sq (.ite (.cmp .notN (.fld (.var 0) "spot") (.con .non)) (.sq (.expr (.omt "step" (.var 0) (.cons (.var 2) .nil))) .nil) .nil) .nil)) .nil)
def dFeed : Df := ⟨2, 3, [false, false], bFeed⟩
/-- behind a text -/
def Fed (kk : Nat) (sts : List Stt) (cs : List Nat) (t s : Nat) (full : List (List Ct)) (o : O) : Prop := match led sts cs t s full with
  | some x => o = rdgO kk sts (some x.1) x.2 (t + cs.length) ∧ x.1 < sts.length ∧ x.2.length = kk ∧ tot x.2 ≤ tot full + cs.length * 220
  | none => ∃ full' t', o = rdgO kk sts none full' t'
theorem feed_ok {mv po st f : Nat} (hm : tb.defs[mv]? = some dMove) (hp : tb.defs[po]? = some dPourE) (hs1 : tb.defs[st]? = some (dStep mv po)) (hmt : tb.mtOf 0 (Str.ofString "step") = some st) (hf : tb.defs[f]? = some dFeed) {kk : Nat} {sts : List Stt} {reads tells : List Nat} (ok : MachAll kk reads tells sts) (hk : kk ≤ 10) {s : Nat} (hs : s < sts.length) {full : List (List Ct)} (hfl : full.length = kk) {t : Nat} {cs : List Nat} (ht : tot full + cs.length * 220 ≤ 1000000)
    (k : ∀ o, Fed kk sts cs t s full o → G (.d .non) (h ++ o :: hb)) : Vc (run tb wf (n + 3) f [.d (.ref h.length), .d (.str (tx cs))] (h ++ (rdgO kk sts (some s) full t) :: hb)) G ⟨⟩ := by
  refine vc_run hf rfl ?_
  show V (ex _ _ _ bFeed ⟨[.d (.ref h.length), .d (.str (tx cs)), .hole], h ++ (rdgO kk sts (some s) full t) :: hb⟩) _ _
  unfold bFeed
  sizeOf_list_dec
  rw [signs_tx]
  refine v_for (fun j s' => ∃ (o : O) (o2 : O), s' = ⟨[.d (.ref h.length), .d (.str (tx cs)), o2], h ++ o :: hb⟩ ∧ ((∃ s1 full1, o = rdgO kk sts (some s1) full1 (t + j) ∧ led sts (cs.drop j) (t + j) s1 full1 = led sts cs t s full ∧ s1 < sts.length ∧ full1.length = kk ∧ tot full1 ≤ tot full + j * 220) ∨ (led sts cs t s full = none ∧ ∃ full1 t1, o = rdgO kk sts none full1 t1))) ?_ ?_ ?_
  · exact ⟨_, _, rfl, .inl ⟨s, full, rfl, by simp, hs, hfl, by omega⟩⟩
  · rintro j s' hj ⟨o, o2, rfl, hh⟩
    rw [List.length_map] at hj
    rw [List.getElem_map]
    have hd : cs.drop j = cs[j] :: cs.drop (j + 1) := List.drop_eq_getElem_cons hj
    rcases hh with ⟨s1, full1, rfl, hl, hs2, hfl1, ht1⟩ | ⟨hl, full1, t1, rfl⟩
    · have hkk : kk * (2 * (kk + 1)) ≤ 220 := by
        have := Nat.mul_le_mul hk (show 2 * (kk + 1) ≤ 22 by omega)
        omega
      rw [show rdgO kk sts (some s1) full1 (t + j) = .ins 0 [(Str.ofString "read_by", machD kk sts), (Str.ofString "spot", .int s1), (Str.ofString "drawers", .tup (full1.map cnD)), (Str.ofString "often", .int ((t + j : Nat) : Int))] from rfl]
      array_get_dec
      rw [hmt]
      sizeOf_list_dec
      refine step_ok hm hp hs1 ok hk hs2 hfl1 (t := t + j) (by omega) ?_
      sizeOf_list_dec
      refine ⟨_, _, rfl, ?_⟩
      have hst : sts.getD s1 ([], none) = sts[s1] := by simp [hs2]
      rw [hd, led] at hl
      unfold stepO
      rw [hst] at hl ⊢
      cases hfm : findMv sts[s1].1 cs[j] with
      | none =>
        rw [hfm] at hl
        exact .inr ⟨hl.symm, _, _, rfl⟩
      | some m =>
        rw [hfm] at hl
        obtain ⟨g, m1, rows⟩ := m
        obtain ⟨hmg, hrows⟩ := (ok _ (List.getElem_mem hs2)).2.1 _ (find_mem hfm)
        dsimp only at hmg hrows hl ⊢
        have hstep := tot_step (pl := ((t + j : Nat) : Int)) hfl1 hrows
        exact .inl ⟨m1, _, rfl, hl, hmg, by rw [List.length_map]; exact hrows.1, by omega⟩
    · rw [show rdgO kk sts none full1 t1 = .ins 0 [(Str.ofString "read_by", machD kk sts), (Str.ofString "spot", .non), (Str.ofString "drawers", .tup (full1.map cnD)), (Str.ofString "often", .int t1)] from rfl]
      array_get_dec
      exact ⟨_, _, rfl, .inr ⟨hl, full1, t1, rfl⟩⟩
  · rintro s' ⟨o, o2, rfl, hh⟩
    rw [List.length_map] at hh
    sizeOf_list_dec
    refine k o ?_
    unfold Fed
    rcases hh with ⟨s1, full1, rfl, hl, hs2, hfl1, ht1⟩ | ⟨hl, full1, t1, rfl⟩
    · rw [List.drop_length, led] at hl
      rw [← hl]
      exact ⟨rfl, hs2, hfl1, ht1⟩
    · rw [hl]
      exact ⟨_, _, rfl⟩
end
section
set_option maxHeartbeats 4000000
/-! Lw: readings (runs.py), what they tell -/
open PySem
variable {tb : Tab} {wf n : Nat} {G : O → List O → Prop} {h hb : List O}
/-- what a reading tells with givers -/
def giv (sts : List Stt) (x : Option (Nat × List (List Ct))) : Option (List Ct) := match x with | none => none | some x => (sts.getD x.1 ([], none)).2.map (pour x.2 (-1))
def RAt (kk : Nat) (sts : List Stt) (x : Option (Nat × List (List Ct))) (o : O) : Prop :=
  (∃ s full t, x = some (s, full) ∧ o = rdgO kk sts (some s) full t ∧ s < sts.length ∧ full.length = kk ∧ tot full ≤ 1000000) ∨ (x = none ∧ ∃ full t, o = rdgO kk sts none full t)
theorem Fed.at {kk : Nat} {sts : List Stt} {cs : List Nat} {t s : Nat} {full : List (List Ct)} {o : O} (h : Fed kk sts cs t s full o) (ht : tot full + cs.length * 220 ≤ 1000000) : RAt kk sts (led sts cs t s full) o := by
  unfold Fed at h
  cases e : led sts cs t s full with
  | none =>
    rw [e] at h
    exact .inr ⟨rfl, h⟩
  | some x =>
    rw [e] at h
    obtain ⟨h1, h2, h3, h4⟩ := h
    exact .inl ⟨x.1, x.2, _, rfl, h1, h2, h3, by omega⟩
theorem pour_row {full : List (List Ct)} {pl : Int} {k : Nat} {tells : List Nat} {row : List It} (hf : full.length = k) (hr : RowOk k tells row) : (pour full pl row).length ≤ 2 * (k + 1) + tot full := by
  obtain ⟨⟨lost, p⟩, h2, h3⟩ := hr
  rw [pour_len]
  have a := (p.map fun d => (full.getD d []).length).sum_nat
  have h1 := sum_range full
  rw [hf] at h1
  rw [List.map_append, List.sum_append, h1] at a
  omega
theorem row_drs {k : Nat} {tells : List Nat} {row : List It} (hr : RowOk k tells row) {d : Nat} (hd : d ∈ drs row) : d < k := by
  obtain ⟨⟨lost, p⟩, _⟩ := hr
  exact List.mem_range.mp (p.mem_iff.mp (List.mem_append_left _ hd))
theorem pour_P {full : List (List Ct)} {pl : Int} {row : List It} (h : ∀ c ∈ full, AllP c) : AllP (pour full pl row) := by
  intro x hx
  obtain ⟨it, hit, hx⟩ := List.mem_flatMap.mp hx
  cases it with
  | s c => exact ⟨c, pl, List.mem_singleton.mp hx⟩
  | k d =>
    simp only [pour1] at hx
    by_cases hd : d < full.length
    · rw [show full.getD d [] = full[d] from by simp [hd]] at hx
      exact h _ (List.getElem_mem _) x hx
    · rw [show full.getD d [] = [] from by simp [List.getD, List.getElem?_eq_none (Nat.le_of_not_lt hd)]] at hx
      cases hx
theorem led_P {sts : List Stt} : ∀ {cs : List Nat} {p s : Nat} {full : List (List Ct)} {s' : Nat} {full' : List (List Ct)}, (∀ c ∈ full, AllP c) → led sts cs p s full = some (s', full') → ∀ c ∈ full', AllP c
  | [], p, s, full, s', full', hc, h => by
    simp only [led, Option.some.injEq, Prod.mk.injEq] at h
    obtain ⟨rfl, rfl⟩ := h
    exact hc
  | c :: r, p, s, full, s', full', hc, h => by
    rw [led] at h
    cases hfm : findMv (sts.getD s ([], none)).1 c with
    | none => rw [hfm] at h; cases h
    | some m =>
      rw [hfm] at h
      refine led_P (cs := r) (fun c' hc' => ?_) h
      obtain ⟨row, _, rfl⟩ := List.mem_map.mp hc'
      exact pour_P hc
theorem nil_P {k : Nat} : ∀ c ∈ List.replicate k ([] : List Ct), AllP c := by
  intro c hc x hx
  rw [(List.mem_replicate.mp hc).2] at hx
  cases hx
theorem nil_tot {k : Nat} : tot (List.replicate k ([] : List Ct)) = 0 := by
  unfold tot
  rw [List.map_replicate]
  simp
def bGiv (po : Nat) : S := (.sq (.asg (.var 1) (.ite (.cmp .isN (.fld (.var 0) "spot") (.con .non)) (.con .non) (.idx (.idx (.idx (.fld (.var 0) "read_by") (.con (.int 1))) (.fld (.var 0) "spot")) (.con (.int 1))))) (.sq (.ret (.ite (.cmp .isN (.var 1) (.con .non)) (.con .non) (.call po (.cons (.var 1) (.cons (.fld (.var 0) "drawers") (.cons (.neg (.con (.int 1))) .nil)))))) .nil))
def dGiv (po : Nat) : Df := ⟨1, 2, [false], bGiv po⟩
theorem giv_ok {po f : Nat} (hp : tb.defs[po]? = some dPourE) (hf : tb.defs[f]? = some (dGiv po)) {kk : Nat} {sts : List Stt} {reads tells : List Nat} (ok : MachAll kk reads tells sts) (hk : kk ≤ 10) {x : Option (Nat × List (List Ct))} {o : O} (hx : RAt kk sts x o)
    (k : G (.d (cnO (giv sts x))) (h ++ o :: hb)) : Vc (run tb wf (n + 2) f [.d (.ref h.length)] (h ++ o :: hb)) G ⟨⟩ := by
  refine vc_run hf rfl ?_
  show V (ex _ _ _ (bGiv po) ⟨[.d (.ref h.length), .hole], h ++ o :: hb⟩) _ _
  unfold bGiv
  rcases hx with ⟨s, full, t, rfl, rfl, hs, hfl, ht⟩ | ⟨rfl, full, t, rfl⟩
  · have hst : sts.getD s ([], none) = sts[s] := by simp [hs]
    simp only [giv, hst] at k
    unfold rdgO at k ⊢
    simp only [spD] at k ⊢
    sizeOf_list_dec
    rw [v_h_nr rfl]
    sizeOf_list_dec
    rw [mach_ix1]
    sizeOf_list_dec
    refine atI_mapD (by omega) (by omega) ?_
    simp only [Int.toNat_natCast]
    rw [show stD sts[s] = .tup [.tup (sts[s].1.map mvD), endD sts[s].2] from rfl]
    have hrow := (ok _ (List.getElem_mem hs)).2.2
    generalize sts[s].2 = e at hrow k ⊢
    cases e with
    | none =>
      simp only [endD]
      sizeOf_list_dec
      exact k
    | some row =>
      have hr := hrow row rfl
      have hl := pour_row (pl := -1) hfl hr
      simp only [endD, rowD]
      sizeOf_list_dec
      refine pourE_ok hp (.inl rfl) (fun d hd => by rw [hfl]; exact row_drs hr hd) (by omega) ?_
      sizeOf_list_dec
      exact k
  · simp only [giv] at k
    unfold rdgO at k ⊢
    simp only [spD] at k ⊢
    sizeOf_list_dec
    exact k
def bAns (sd : Nat) : S := (.sq (.ret (.call sd (.cons (.omt "givers" (.var 0) .nil) .nil))) .nil)
def dAns (sd : Nat) : Df := ⟨1, 1, [false], bAns sd⟩
def bWhole : S := (.sq (.asg (.var 2) (.new 0 (.cons (.var 0) .nil))) (.sq (.expr (.omt "feed" (.var 2) (.cons (.var 1) .nil))) (.sq (.ret (.var 2)) .nil)))
def dWhole : Df := ⟨2, 3, [false, false], bWhole⟩
def bAnswer (w : Nat) : S := (.sq (.ret (.omt "answer" (.call w (.cons (.var 0) (.cons (.var 1) .nil))) .nil)) .nil)
def dAnswer (w : Nat) : Df := ⟨2, 2, [false, false], bAnswer w⟩
/-- the class Reading among the defs -/
structure Rdg (tb : Tab) (mv po sd ini st fe gi an : Nat) : Prop where
  f_mv : tb.defs[mv]? = some dMove
  f_po : tb.defs[po]? = some dPourE
  f_sd : tb.defs[sd]? = some dSaid
  f_ini : tb.defs[ini]? = some dInit
  f_st : tb.defs[st]? = some (dStep mv po)
  f_fe : tb.defs[fe]? = some dFeed
  f_gi : tb.defs[gi]? = some (dGiv po)
  f_an : tb.defs[an]? = some (dAns sd)
  mst : tb.mtOf 0 (Str.ofString "step") = some st
  mfe : tb.mtOf 0 (Str.ofString "feed") = some fe
  mgi : tb.mtOf 0 (Str.ofString "givers") = some gi
  man : tb.mtOf 0 (Str.ofString "answer") = some an
  nw : tb.iniOf 0 = some ini
section
variable {mv po sd ini st fe gi an : Nat}
theorem ans_ok (R : Rdg tb mv po sd ini st fe gi an) {kk : Nat} {sts : List Stt} {reads tells : List Nat} (ok : MachAll kk reads tells sts) (hk : kk ≤ 10) {x : Option (Nat × List (List Ct))} {o : O} (hx : RAt kk sts x o) (hg : ∀ l, giv sts x = some l → AllP l ∧ l.length ≤ 10000000)
    (k : G (.d (sdO (giv sts x))) (h ++ o :: hb)) : Vc (run tb wf (n + 3) an [.d (.ref h.length)] (h ++ o :: hb)) G ⟨⟩ := by
  refine vc_run R.f_an rfl ?_
  show V (ex _ _ _ (bAns sd) ⟨[.d (.ref h.length)], h ++ o :: hb⟩) _ _
  unfold bAns
  have hx2 := hx
  rcases hx with ⟨s, full, t, rfl, rfl, hs, hfl, ht⟩ | ⟨rfl, full, t, rfl⟩
  all_goals
    unfold rdgO
    sizeOf_list_dec
    rw [R.mgi]
    sizeOf_list_dec
    refine giv_ok R.f_po R.f_gi ok hk hx2 ?_
    sizeOf_list_dec
    refine said_ok R.f_sd hg ?_
    sizeOf_list_dec
    exact k
theorem giv_P {kk : Nat} {sts : List Stt} {reads tells : List Nat} (ok : MachAll kk reads tells sts) (htl : ∀ c ∈ tells, isL c) (hk : kk ≤ 10) (hS : 0 < sts.length) {cs : List Nat} (hc : cs.length ≤ 1000) : ∀ l, giv sts (led sts cs 0 0 (List.replicate kk [])) = some l → AllP l ∧ l.length ≤ 22 + cs.length * 220 ∧ ∀ x ∈ l, CtOk 1000000 x := by
  intro l hl
  have hkk : kk * (2 * (kk + 1)) ≤ 220 := by
    have := Nat.mul_le_mul hk (show 2 * (kk + 1) ≤ 22 by omega)
    omega
  cases e : led sts cs 0 0 (List.replicate kk []) with
  | none => rw [e] at hl; cases hl
  | some x =>
    obtain ⟨s', full'⟩ := x
    obtain ⟨a, b, d, f⟩ := led_some ok htl (M := 1000000) hS (by simp) (by
      intro c hc x hx
      rw [(List.mem_replicate.mp hc).2] at hx
      cases hx) (by omega) e
    rw [e] at hl
    simp only [giv, show sts.getD s' ([], none) = sts[s'] from by simp [a]] at hl
    cases e2 : sts[s'].2 with
    | none => rw [e2] at hl; cases hl
    | some row =>
      rw [e2] at hl
      cases hl
      have hr := (ok _ (List.getElem_mem a)).2.2 row e2
      have h1 := pour_row (pl := -1) b hr
      have h2 : cs.length * (kk * (2 * (kk + 1))) ≤ cs.length * 220 := Nat.mul_le_mul_left _ hkk
      rw [nil_tot] at f
      refine ⟨pour_P (led_P nil_P e), by omega, ?_⟩
      intro x hx
      obtain ⟨it, hit, hx⟩ := List.mem_flatMap.mp hx
      cases it with
      | s c2 =>
        simp only [pour1, List.mem_singleton] at hx
        subst hx
        exact ⟨htl c2 (hr.2.2 c2 (List.mem_filterMap.mpr ⟨_, hit, rfl⟩)), by omega, by decide⟩
      | k d2 =>
        have hd := row_drs hr (mem_drs hit)
        simp only [pour1] at hx
        rw [show full'.getD d2 [] = full'[d2]'(by omega) from by simp [b, hd]] at hx
        exact d _ (List.getElem_mem _) x hx
theorem whole_ok (R : Rdg tb mv po sd ini st fe gi an) {w : Nat} (hw : tb.defs[w]? = some dWhole) {kk : Nat} {sts : List Stt} {reads tells : List Nat} (ok : MachAll kk reads tells sts) (hk : kk ≤ 10) (hS : 0 < sts.length) {cs : List Nat} (hc : cs.length ≤ 1000)
    (k : ∀ o, RAt kk sts (led sts cs 0 0 (List.replicate kk [])) o → G (.d (.ref h.length)) (h ++ [o])) : Vc (run tb wf (n + 4) w [.d (machD kk sts), .d (.str (tx cs))] h) G ⟨⟩ := by
  refine vc_run hw rfl ?_
  show V (ex _ _ _ bWhole ⟨[.d (machD kk sts), .d (.str (tx cs)), .hole], h⟩) _ _
  unfold bWhole
  sizeOf_list_dec
  rw [R.nw]
  sizeOf_list_dec
  refine initR_ok R.f_ini (by omega) ?_
  unfold rdgO
  sizeOf_list_dec
  rw [R.mfe]
  sizeOf_list_dec
  refine feed_ok R.f_mv R.f_po R.f_st R.mst R.f_fe ok hk hS (by simp) (t := 0) (by rw [nil_tot]; omega) fun o ho => ?_
  have hr := ho.at (by rw [nil_tot]; omega)
  sizeOf_list_dec
  exact k o hr
theorem answer_ok (R : Rdg tb mv po sd ini st fe gi an) {w f : Nat} (hw : tb.defs[w]? = some dWhole) (hf : tb.defs[f]? = some (dAnswer w)) {kk : Nat} {sts : List Stt} {reads tells : List Nat} (ok : MachAll kk reads tells sts) (htl : ∀ c ∈ tells, isL c) (hk : kk ≤ 10) (hS : 0 < sts.length) {cs : List Nat} (hc : cs.length ≤ 1000)
    (k : ∀ o, G (.d (sdO (giv sts (led sts cs 0 0 (List.replicate kk []))))) (h ++ [o])) : Vc (run tb wf (n + 5) f [.d (machD kk sts), .d (.str (tx cs))] h) G ⟨⟩ := by
  refine vc_run hf rfl ?_
  show V (ex _ _ _ (bAnswer w) ⟨[.d (machD kk sts), .d (.str (tx cs))], h⟩) _ _
  unfold bAnswer
  sizeOf_list_dec
  refine whole_ok R hw ok hk hS hc fun o ho => ?_
  have ho2 := ho
  have hg : ∀ l, giv sts (led sts cs 0 0 (List.replicate kk [])) = some l → AllP l ∧ l.length ≤ 10000000 := fun l hl => by
    obtain ⟨a, b, _⟩ := giv_P ok htl hk hS hc l hl
    exact ⟨a, by omega⟩
  generalize led sts cs 0 0 (List.replicate kk []) = x at ho ho2 hg k
  rcases ho with ⟨s, full, t, rfl, rfl, hs, hfl, ht⟩ | ⟨rfl, full, t, rfl⟩
  all_goals
    unfold rdgO
    sizeOf_list_dec
    rw [R.man]
    sizeOf_list_dec
    refine ans_ok R ok hk ho2 hg ?_
    sizeOf_list_dec
    exact k _
end
end
section
set_option maxHeartbeats 4000000
/-! Lw: the laws' own reading -/
open PySem
variable {tb : Tab} {wf n : Nat} {G : O → List O → Prop} {h : List O}
theorem x_mulL0 {k : Nat} (hk : k ≤ 1000) {K : O → Prop} {t : Tag K} : X (binop .mul (.lst [.tup []]) (.d (.int k))) K t = K (.lst ((List.replicate k ([] : List Ct)).map cnD)) := by
  have e : (List.replicate k [D.tup []]).flatten = (List.replicate k ([] : List Ct)).map cnD := by
    induction k with
    | zero => rfl
    | succ k ih => rw [List.replicate_succ, List.flatten_cons, ih (by omega)]; rfl
  have c : (decide (0 ≤ (k : Int)) && decide ((k : Int) < 2 ^ 20) && line ([D.tup []].length * (k : Int).toNat)) = true := by
    simp [line, sizeLine]; omega
  have hb : binop .mul (.lst [.tup []]) (.d (.int k)) = some (.lst ((List.replicate k ([] : List Ct)).map cnD)) := by
    simp only [binop, bmul, lv]
    rw [if_pos c, Int.toNat_natCast, e]
  simp [X, hb]
def bRead (po : Nat) : S := (.sq (.asg (.var 2) (.con (.int 0))) (.sq (.asg (.var 3) (.bin .mul (.lst (.cons (.tup .nil) .nil)) (.idx (.var 0) (.con (.int 0))))) (.sq (.for (.var 4) (.rng1 (.blt .len (.cons (.var 1) .nil))) (.sq (.asg (.var 6) (.comp (.var 7) (.var 7) (.seq (.idx (.idx (.idx (.var 0) (.con (.int 1))) (.var 2)) (.con (.int 0)))) (.cmp .eq (.idx (.var 7) (.con (.int 0))) (.idx (.var 1) (.var 4))) [7])) (.sq (.ite (.cmp .eq (.var 6) (.lst .nil)) (.sq (.ret (.con .non)) .nil) .nil) (.sq (.asg (.var 3) (.comp (.call po (.cons (.var 8) (.cons (.var 3) (.cons (.var 4) .nil)))) (.var 8) (.seq (.idx (.idx (.var 6) (.con (.int 0))) (.con (.int 2)))) (.con (.bl true)) [8])) (.sq (.asg (.var 2) (.idx (.idx (.var 6) (.con (.int 0))) (.con (.int 1)))) .nil))))) (.sq (.asg (.var 5) (.idx (.idx (.idx (.var 0) (.con (.int 1))) (.var 2)) (.con (.int 1)))) (.sq (.ret (.ite (.cmp .isN (.var 5) (.con .non)) (.con .non) (.call po (.cons (.var 5) (.cons (.var 3) (.cons (.neg (.con (.int 1))) .nil)))))) .nil)))))
def dRead (po : Nat) : Df := ⟨2, 9, [false, false], bRead po⟩
theorem read_ok {po f : Nat} (hp : tb.defs[po]? = some dPour) (hf : tb.defs[f]? = some (dRead po)) {kk : Nat} {sts : List Stt} {reads tells : List Nat} (ok : MachAll kk reads tells sts) (hrl : ∀ c ∈ reads, isL c) (htl : ∀ c ∈ tells, isL c) (hrn : reads.length ≤ 26) (hk : kk ≤ 10) (hS : 0 < sts.length) {cs : List Nat} (hc : cs.length ≤ 1000)
    (k : G (.d (cnO (giv sts (led sts cs 0 0 (List.replicate kk []))))) h) : Vc (run tb wf (n + 2) f [.d (machD kk sts), .d (.str (tx cs))] h) G ⟨⟩ := by
  refine vc_run hf rfl ?_
  show V (ex _ _ _ (bRead po) ⟨[.d (machD kk sts), .d (.str (tx cs)), .hole, .hole, .hole, .hole, .hole, .hole, .hole], h⟩) _ _
  unfold bRead
  have hkk : kk * (2 * (kk + 1)) ≤ 220 := by
    have := Nat.mul_le_mul hk (show 2 * (kk + 1) ≤ 22 by omega)
    omega
  have etx : (tx cs).length = cs.length := by simp [tx, Str.length]
  rw [show machD kk sts = .tup [.int kk, .tup (sts.map stD)] from rfl]
  sizeOf_list_dec
  rw [x_mulL0 (by omega)]
  sizeOf_list_dec
  rw [etx]
  refine ⟨by omega, by simp [rngOk]; omega, ?_⟩
  sizeOf_list_dec
  refine v_forR (fun j s' => ∃ (s1 : Nat) (full : List (List Ct)) (o4 o6 : O), led sts (cs.drop j) j s1 full = led sts cs 0 0 (List.replicate kk []) ∧ s1 < sts.length ∧ full.length = kk ∧ tot full ≤ kk + j * 220 ∧ s' = ⟨[.d (.tup [.int kk, .tup (sts.map stD)]), .d (.str (tx cs)), .d (.int s1), .lst (full.map cnD), o4, .hole, o6, .hole, .hole], h⟩) ?_ ?_ ?_
  · refine ⟨0, List.replicate kk [], .hole, .hole, rfl, hS, by simp, by rw [nil_tot]; omega, ?_⟩
    simp
  · rintro j s' hj ⟨s1, full, o4, o6, hl, hs1, hfl, ht, rfl⟩
    have hd : cs.drop j = cs[j] :: cs.drop (j + 1) := List.drop_eq_getElem_cons hj
    have hst : sts.getD s1 ([], none) = sts[s1] := by simp [hs1]
    have okst := ok _ (List.getElem_mem hs1)
    have hml : sts[s1].1.length ≤ 26 := by
      have := okst.1.length_le
      rw [List.length_map] at this
      omega
    rw [hd, led, hst, find_filter] at hl
    sizeOf_list_dec
    refine atI_mapD (by omega) (by omega) ?_
    simp only [Int.toNat_natCast]
    rw [show stD sts[s1] = .tup [.tup (sts[s1].1.map mvD), endD sts[s1].2] from rfl]
    sizeOf_list_dec
    refine v_compL (fun u acc s' => ∃ o, acc = ((sts[s1].1.take u).filter fun m => m.1 == cs[j]).map mvD ∧ s' = ⟨[.d (.tup [.int kk, .tup (sts.map stD)]), .d (.str (tx cs)), .d (.int s1), .lst (full.map cnD), .d (.int j), .hole, o6, o, .hole], h⟩) ⟨.hole, rfl, rfl⟩ ?_ ?_
    · rintro u acc s' hu ⟨o, rfl, rfl⟩
      rw [List.length_map] at hu
      rw [List.getElem_map]
      rw [show mvD (sts[s1].1[u]) = .tup [.str (ltr (sts[s1].1[u]).1), .int (sts[s1].1[u]).2.1, .tup ((sts[s1].1[u]).2.2.map rowD)] from rfl]
      sizeOf_list_dec
      refine tx_at (by omega) (by omega) (by omega) ?_
      simp only [Int.toNat_natCast]
      rw [show sgD cs[j] = .str (ltr cs[j]) from rfl]
      sizeOf_list_dec
      rw [ltr_inj]
      have et : ((sts[s1].1.take (u + 1)).filter fun m => m.1 == cs[j]) = ((sts[s1].1.take u).filter fun m => m.1 == cs[j]) ++ if (sts[s1].1[u]).1 == cs[j] then [sts[s1].1[u]] else [] := by
        rw [List.take_add_one, List.getElem?_eq_getElem hu, List.filter_append]
        simp only [Option.toList_some, List.filter_cons, List.filter_nil]
      refine br (fun he => ?_) (fun he => ?_)
      · have he := of_decide_eq_true he
        sizeOf_list_dec
        have hlf := List.length_filter_le (fun m : Mv => m.1 == cs[j]) (sts[s1].1.take u)
        rw [List.length_take] at hlf
        refine ⟨by rw [List.length_map]; unfold sizeLine; omega, _, ?_, rfl⟩
        rw [et, if_pos (by simpa using he), List.map_append]
        rfl
      · have he := of_decide_eq_false he
        refine ⟨_, ?_, rfl⟩
        rw [et, if_neg (by simpa using he), List.append_nil]
    rintro acc s' ⟨o, ha, rfl⟩
    rw [List.length_map, List.take_length] at ha
    subst ha
    have hfm : ∀ m ∈ sts[s1].1.filter (fun m => m.1 == cs[j]), m ∈ sts[s1].1 := fun m hm => (List.mem_filter.mp hm).1
    generalize sts[s1].1.filter (fun m => m.1 == cs[j]) = some at hl hfm ⊢
    sizeOf_list_dec
    array_get_dec
    rw [x_eqN (fun x hx => by
      obtain ⟨m, hm, rfl⟩ := List.mem_map.mp hx
      refine dk_mv (hrl _ (okst.1.subset (List.mem_map.mpr ⟨m, hfm m hm, rfl⟩))) fun row hrow c hc => htl c (((okst.2.1 m (hfm m hm)).2.2.2 row hrow).2 c hc))]
    cases some with
    | nil =>
      simp only [List.map_nil, List.isEmpty_nil]
      rw [← hl] at k
      sizeOf_list_dec
      exact k
    | cons m r =>
      obtain ⟨g, m1, rows⟩ := m
      obtain ⟨hmg, hrows⟩ := okst.2.1 _ (hfm _ (List.mem_cons_self ..))
      dsimp only [List.head?_cons] at hl hmg hrows
      have hstep := tot_step (pl := (j : Int)) hfl hrows
      rw [List.map_cons, show mvD (g, m1, rows) = .tup [.str (ltr g), .int m1, .tup (rows.map rowD)] from rfl]
      simp only [List.isEmpty_cons]
      sizeOf_list_dec
      refine v_compL (fun u acc s' => ∃ o o3, acc = (rows.take u).map (fun row => cnD (pour full j row)) ∧ (o3 = .lst (full.map cnD) ∨ o3 = .d (.lst (full.map cnD))) ∧ s' = ⟨[.d (.tup [.int kk, .tup (sts.map stD)]), .d (.str (tx cs)), .d (.int s1), o3, .d (.int j), .hole, .lst ((D.tup [.str (ltr g), .int m1, .tup (rows.map rowD)]) :: r.map mvD), .hole, o], h⟩) ⟨.hole, _, rfl, .inl rfl, rfl⟩ ?_ ?_
      · rintro u acc s' hu ⟨o, o3, rfl, ho3, rfl⟩
        rw [List.length_map] at hu
        rw [List.getElem_map]
        have hmem : rows[u] ∈ rows := List.getElem_mem hu
        have hpl : (pour full j rows[u]).length ≤ tot (rows.map (pour full j)) := mem_tot (List.mem_map.mpr ⟨_, hmem, rfl⟩)
        have fin : ∀ (o3 : O), (o3 = .lst (full.map cnD) ∨ o3 = .d (.lst (full.map cnD))) → ∃ (o o3' : O), (rows.take u).map (fun row => cnD (pour full j row)) ++ [D.tup ((pour full j rows[u]).map ctD)] = (rows.take (u + 1)).map (fun row => cnD (pour full j row)) ∧ (o3' = .lst (full.map cnD) ∨ o3' = .d (.lst (full.map cnD))) ∧ (⟨[.d (.tup [.int kk, .tup (sts.map stD)]), .d (.str (tx cs)), .d (.int s1), o3, .d (.int j), .hole, .lst ((D.tup [.str (ltr g), .int m1, .tup (rows.map rowD)]) :: r.map mvD), .hole, .d (rowD rows[u])], h⟩ : St) = ⟨[.d (.tup [.int kk, .tup (sts.map stD)]), .d (.str (tx cs)), .d (.int s1), o3', .d (.int j), .hole, .lst ((D.tup [.str (ltr g), .int m1, .tup (rows.map rowD)]) :: r.map mvD), .hole, o], h⟩ := by
          intro o3 h3
          refine ⟨_, o3, ?_, h3, rfl⟩
          rw [List.take_add_one, List.getElem?_eq_getElem hu, List.map_append]
          rfl
        rcases ho3 with rfl | rfl
        · sizeOf_list_dec
          rw [fl_of hp]
          unfold dPour
          sizeOf_list_dec
          refine pour_ok hp (.inr rfl) (fun d hd => by rw [hfl]; exact rows_drs hrows hmem hd) (by omega) ?_
          unfold cnD
          sizeOf_list_dec
          refine ⟨by rw [List.length_map, List.length_take]; have := hrows.1; unfold sizeLine; omega, fin _ (.inr rfl)⟩
        · sizeOf_list_dec
          refine pour_ok hp (.inr rfl) (fun d hd => by rw [hfl]; exact rows_drs hrows hmem hd) (by omega) ?_
          unfold cnD
          sizeOf_list_dec
          refine ⟨by rw [List.length_map, List.length_take]; have := hrows.1; unfold sizeLine; omega, fin _ (.inr rfl)⟩
      · rintro acc s' ⟨o, o3, ha, ho3, rfl⟩
        rw [List.length_map, List.take_length] at ha
        subst ha
        sizeOf_list_dec
        refine ⟨m1, rows.map (pour full j), .d (.int j), .lst ((D.tup [.str (ltr g), .int m1, .tup (rows.map rowD)]) :: r.map mvD), hl, hmg, by rw [List.length_map]; exact hrows.1, by omega, ?_⟩
        rw [List.map_map]
        rfl
  · rintro s' ⟨s1, full, o4, o6, hl, hs1, hfl, ht, rfl⟩
    rw [List.drop_length, led] at hl
    have hst : sts.getD s1 ([], none) = sts[s1] := by simp [hs1]
    rw [← hl] at k
    simp only [giv, hst] at k
    sizeOf_list_dec
    refine atI_mapD (by omega) (by omega) ?_
    simp only [Int.toNat_natCast]
    rw [show stD sts[s1] = .tup [.tup (sts[s1].1.map mvD), endD sts[s1].2] from rfl]
    have hrow := (ok _ (List.getElem_mem hs1)).2.2
    generalize sts[s1].2 = e at hrow k ⊢
    cases e with
    | none =>
      simp only [endD]
      sizeOf_list_dec
      exact k
    | some row =>
      have hr := hrow row rfl
      have hl := pour_row (pl := -1) hfl hr
      simp only [endD, rowD]
      sizeOf_list_dec
      rw [fl_of hp]
      unfold dPour
      sizeOf_list_dec
      refine pour_ok hp (.inr rfl) (fun d hd => by rw [hfl]; exact row_drs hr hd) (by omega) ?_
      sizeOf_list_dec
      exact k
end
section
set_option maxHeartbeats 4000000
/-! Lw: drawn machines and words of the readings' laws -/
open PySem
variable {tb : Tab} {wf n : Nat} {G : O → List O → Prop} {h : List O}
theorem sh_pair {m1 m2 d : Nat} {x y : D} (hx : Sh m1 d x) (hy : Sh m2 d y) : Sh (m1 + m2 + 2) (d + 1) (.tup [x, y]) := by
  obtain ⟨p, a, b, c, e, f, g⟩ := hx
  obtain ⟨q, a2, b2, c2, e2, f2, g2⟩ := hy
  exact ⟨.tuple [p, q], by simp [D.py, pys, a, a2], by simp [PyData.showable, PyData.showableAll, b, b2], by simp [PyData.canLay0, PyData.canLayAll0, c, c2], by simp [PyData.intsShort, PyData.intsShortAll, e, e2], by simp only [PyData.weight, PyData.weightAll]; omega, by simp only [PyData.depth, PyData.depthAll]; omega⟩
theorem sh_tri {m1 m2 m3 d : Nat} {x y z : D} (hx : Sh m1 d x) (hy : Sh m2 d y) (hz : Sh m3 d z) : Sh (m1 + m2 + m3 + 3) (d + 1) (.tup [x, y, z]) := by
  obtain ⟨p, a, b, c, e, f, g⟩ := hx
  obtain ⟨q, a2, b2, c2, e2, f2, g2⟩ := hy
  obtain ⟨r, a3, b3, c3, e3, f3, g3⟩ := hz
  exact ⟨.tuple [p, q, r], by simp [D.py, pys, a, a2, a3], by simp [PyData.showable, PyData.showableAll, b, b2, b3], by simp [PyData.canLay0, PyData.canLayAll0, c, c2, c3], by simp [PyData.intsShort, PyData.intsShortAll, e, e2, e3], by simp only [PyData.weight, PyData.weightAll]; omega, by simp only [PyData.depth, PyData.depthAll]; omega⟩
/-- a machine of few drawers and letters can be shown -/
theorem sh_mach6 {k : Nat} {reads tells : List Nat} {sts : List Stt} (ok : MachAll k reads tells sts) (hrl : ∀ c ∈ reads, isL c) (htl : ∀ c ∈ tells, isL c) (hk : k ≤ 6) (hr : reads.length ≤ 4) (hS : sts.length ≤ 40) : Sh 900000 7 (machD k sts) := by
  refine (sh_pair (m1 := 41) (m2 := 850000) (d := 6) ((sh_int (by omega)).mono (by omega) (by omega)) ?_).mono (by omega) (by omega)
  refine (sh_tup (m := 21210) (dep := 5) (n := 40) (fun x hx => ?_) (by simpa using hS) (by omega)).mono (Nat.le_refl _) (by omega)
  obtain ⟨st, hst, rfl⟩ := List.mem_map.mp hx
  obtain ⟨o1, o2, o3⟩ := ok st hst
  have hml : st.1.length ≤ 4 := by
    have := o1.length_le
    rw [List.length_map] at this
    omega
  refine (sh_pair (m1 := 20368) (m2 := 840) (d := 4) ?_ ?_).mono (by omega) (by omega)
  · refine (sh_tup (m := 5091) (dep := 3) (n := 4) (M := 20368) (fun x hx => ?_) (by rw [List.length_map]; exact hml) (by omega)).mono (by omega) (by omega)
    obtain ⟨mv, hmv, rfl⟩ := List.mem_map.mp hx
    obtain ⟨q1, q2⟩ := o2 mv hmv
    refine (sh_tri (m1 := 1) (m2 := 41) (m3 := 5046) (d := 2) ?_ ?_ ?_).mono (by omega) (by omega)
    · exact (sh_ltr (hrl _ (o1.subset (List.mem_map.mpr ⟨mv, hmv, rfl⟩)))).mono (by omega) (by omega)
    · exact (sh_int (by omega)).mono (by omega) (by omega)
    · refine (sh_tup (m := 840) (dep := 1) (n := 6) (M := 5046) (fun x hx => ?_) (by rw [List.length_map, q2.1]; omega) (by omega)).mono (by omega) (by omega)
      obtain ⟨row, hrow, rfl⟩ := List.mem_map.mp hx
      obtain ⟨lost, p⟩ := q2.2.1
      refine sh_row (k := k) (n := 20) (by omega) (fun d hd => rows_drs q2 hrow hd) (fun c hc => htl c ((q2.2.2 row hrow).2 c hc)) ?_ (by omega)
      rw [row_len]
      have := drs_le p
      have := flat_le hrow
      have := (q2.2.2 row hrow).1
      omega
  · cases he : st.2 with
    | none => exact sh_non.mono (by omega) (by omega)
    | some row =>
      obtain ⟨⟨lost, p⟩, r2, r3⟩ := o3 row he
      refine (sh_row (k := k) (n := 20) (by omega) (fun d hd => List.mem_range.mp (p.mem_iff.mp (List.mem_append_left _ hd))) (fun c hc => htl c (r3 c hc)) ?_ (Nat.le_refl _)).mono (by omega) (by omega)
      rw [row_len]
      have := drs_le p
      omega
theorem sh_sdO {k : Nat} {o : Option (List Ct)} (hp : ∀ l, o = some l → AllP l ∧ l.length ≤ k ∧ ∀ x ∈ l, CtOk 1000000 x) : Sh k 0 (sdO o) := by
  cases o with
  | none => exact sh_non.mono (by omega) (by omega)
  | some l =>
    obtain ⟨a, b, c⟩ := hp l rfl
    refine sh_str (fun z hz => ?_) (by simpa [tx] using b)
    obtain ⟨x, hx, rfl⟩ := List.mem_map.mp (show z ∈ l.map ltC from by simpa [tx] using hz)
    obtain ⟨c2, pl, rfl⟩ := a x hx
    have := (c _ hx).1
    unfold isL at this
    show c2 < 1114112
    omega
def bSomeM (d l m : Nat) : S := (.sq (.asg (.var 1) (.call l (.cons (.var 0) (.cons (.bin .add (.con (.int 1)) (.call d (.cons (.var 0) (.cons (.con (.int 4)) .nil)))) .nil)))) (.sq (.asg (.var 2) (.call l (.cons (.var 0) (.cons (.bin .add (.con (.int 1)) (.call d (.cons (.var 0) (.cons (.con (.int 3)) .nil)))) .nil)))) (.sq (.asg (.var 3) (.bin .add (.con (.int 1)) (.call d (.cons (.var 0) (.cons (.idx (.lst (.cons (.con (.int 6)) (.cons (.con (.int 6)) (.cons (.con (.int 6)) (.cons (.con (.int 40)) .nil))))) (.call d (.cons (.var 0) (.cons (.con (.int 4)) .nil)))) .nil))))) (.sq (.ret (.tup (.cons (.call m (.cons (.var 0) (.cons (.var 1) (.cons (.var 2) (.cons (.var 3) (.cons (.call d (.cons (.var 0) (.cons (.con (.int 7)) .nil))) .nil)))))) (.cons (.var 1) .nil)))) .nil))))
def dSomeM (d l m : Nat) : Df := ⟨1, 4, [true], bSomeM d l m⟩
theorem someM_ok {w d l x q m f : Nat} (hw : tb.defs[w]? = some dWell) (hd : tb.defs[d]? = some (dDraw w)) (hl : tb.defs[l]? = some (dLetters d)) (hx : tb.defs[x]? = some (dMix d)) (hq : tb.defs[q]? = some (dRows d x)) (hm : tb.defs[m]? = some (dMachine d x q)) (hf : tb.defs[f]? = some (dSomeM d l m)) {ns : List Int} {i v : Int} {r : List O} (h2 : 0 ≤ i) (h3 : i ≤ 100000000000)
    (k : ∀ (i' v' : Int) (r' : List O) (kk : Nat) (reads tells : List Nat) (sts : List Stt), i ≤ i' → i' ≤ i + 1300000000 → kk ≤ 6 → 0 < sts.length → sts.length ≤ 40 → 0 < reads.length → reads.length ≤ 4 → (∀ c ∈ reads, isL c) → (∀ c ∈ tells, isL c) → MachAll kk reads tells sts → G (.d (.tup [machD kk sts, .lst (reads.map sgD)])) (pen ns i' v' :: r')) :
    Vc (run tb wf (n + 6) f [.d (.ref 0)] (pen ns i v :: r)) G ⟨⟩ := by
  refine vc_run hf rfl ?_
  show V (ex _ _ _ (bSomeM d l m) ⟨[.d (.ref 0), .hole, .hole, .hole], pen ns i v :: r⟩) _ _
  unfold bSomeM
  sizeOf_list_dec
  refine draw_ok hw hd (by omega) (by omega) h2 (by omega) fun i1 v1 z1 h4 h5 h6 h7 => ?_
  obtain ⟨z1, rfl⟩ := Int.eq_ofNat_of_zero_le h6
  sizeOf_list_dec
  rw [show (1 : Int) + (z1 : Int) = ((1 + z1 : Nat) : Int) from by omega]
  refine letters_ok hw hd hl (by omega) (by omega) (by omega) fun i2 v2 reads h8 h9 h10 h11 h12 => ?_
  sizeOf_list_dec
  refine draw_ok hw hd (by omega) (by omega) (by omega) (by omega) fun i3 v3 z2 h13 h14 h15 h16 => ?_
  obtain ⟨z2, rfl⟩ := Int.eq_ofNat_of_zero_le h15
  sizeOf_list_dec
  rw [show (1 : Int) + (z2 : Int) = ((1 + z2 : Nat) : Int) from by omega]
  refine letters_ok hw hd hl (by omega) (by omega) (by omega) fun i4 v4 tells h17 h18 h19 h20 h21 => ?_
  sizeOf_list_dec
  refine draw_ok hw hd (by omega) (by omega) (by omega) (by omega) fun i5 v5 z3 h22 h23 h24 h25 => ?_
  sizeOf_list_dec
  refine x_atP (P := fun x => ∃ u : Nat, x = .int u ∧ 0 < u ∧ u ≤ 40) h24 (by simpa using h25) (by
    intro x hx
    simp only [List.mem_cons, List.not_mem_nil, or_false] at hx
    rcases hx with rfl | rfl | rfl | rfl
    · exact ⟨6, rfl, by omega, by omega⟩
    · exact ⟨6, rfl, by omega, by omega⟩
    · exact ⟨6, rfl, by omega, by omega⟩
    · exact ⟨40, rfl, by omega, by omega⟩) ?_
  rintro _ ⟨u, rfl, hu0, hu1⟩
  sizeOf_list_dec
  refine draw_ok hw hd (by omega) (by omega) (by omega) (by omega) fun i6 v6 z4 h26 h27 h28 h29 => ?_
  obtain ⟨z4, rfl⟩ := Int.eq_ofNat_of_zero_le h28
  sizeOf_list_dec
  rw [fl_of hm]
  unfold dMachine
  sizeOf_list_dec
  refine draw_ok hw hd (by omega) (by omega) (by omega) (by omega) fun i7 v7 kk h30 h31 h32 h33 => ?_
  obtain ⟨kk, rfl⟩ := Int.eq_ofNat_of_zero_le h32
  sizeOf_list_dec
  rw [show (1 : Int) + (z4 : Int) = ((1 + z4 : Nat) : Int) from by omega]
  refine machine_ok hw hd hx hq hm (by omega) (by intro e; rw [e] at h19; simp at h19; omega) (by omega) (by omega) (by omega) (by omega) (by omega) (by omega) fun i8 v8 sts r' h34 h35 hmo => ?_
  sizeOf_list_dec
  have hall : MachAll kk reads tells sts := by
    intro st hst
    have := hmo.2 st hst
    rwa [← hmo.1] at this
  refine k _ _ _ kk reads tells sts (by omega) (by omega) (by omega) (by rw [hmo.1]; omega) (by rw [hmo.1]; omega) (by omega) (by omega) h11 h20 hall
def bSomeW (d w : Nat) : S := (.sq (.asg (.var 2) (.call w (.cons (.var 0) (.cons (.var 1) (.cons (.idx (.lst (.cons (.con (.int 4)) (.cons (.con (.int 14)) .nil))) (.call d (.cons (.var 0) (.cons (.con (.int 2)) .nil)))) .nil))))) (.sq (.ite (.cmp .eq (.call d (.cons (.var 0) (.cons (.con (.int 6)) .nil))) (.con (.int 0))) (.sq (.asg (.var 3) (.call d (.cons (.var 0) (.cons (.bin .add (.blt .len (.cons (.var 2) .nil)) (.con (.int 1))) .nil)))) (.sq (.asg (.var 2) (.bin .add (.bin .add (.sl (.var 2) .nil (.one (.var 3))) (.idx (.con (.str "abcdefghijklmnopqrstuvwxyz")) (.call d (.cons (.var 0) (.cons (.con (.int 26)) .nil))))) (.sl (.var 2) (.one (.var 3)) .nil))) .nil)) .nil) (.sq (.ret (.var 2)) .nil)))
def dSomeW (d w : Nat) : Df := ⟨2, 4, [true, false], bSomeW d w⟩
theorem cutS_ok {cs : List Nat} {lo hi : Option Int} : ∃ cs', L2.cutS (tx cs) lo hi = tx cs' ∧ cs'.length ≤ cs.length := by
  refine ⟨_, rfl, ?_⟩
  rw [List.length_take, List.length_drop]
  have : (tx cs).cps.toList = cs := rfl
  rw [this]
  omega
theorem tx_len {cs : List Nat} : (tx cs).length = cs.length := by simp [tx, Str.length]
theorem tx_add {a b : List Nat} : tx a ++ tx b = tx (a ++ b) := by
  show (⟨(tx a).cps ++ (tx b).cps⟩ : Str) = _
  simp [tx]
theorem alpha_tx : Str.ofString "abcdefghijklmnopqrstuvwxyz" = tx alpha := by decide +kernel
theorem someW_ok {w d l f : Nat} (hw : tb.defs[w]? = some dWell) (hd : tb.defs[d]? = some (dDraw w)) (hl : tb.defs[l]? = some (dWord d)) (hf : tb.defs[f]? = some (dSomeW d l)) {reads : List Nat} (hr : 0 < reads.length) (hr2 : reads.length ≤ 26) {ns : List Int} {i v : Int} {r : List O} (h2 : 0 ≤ i) (h3 : i ≤ 900000000000)
    (k : ∀ (i' v' : Int) (cs : List Nat), i ≤ i' → i' ≤ i + 100 → cs.length ≤ 40 → G (.d (.str (tx cs))) (pen ns i' v' :: r)) : Vc (run tb wf (n + 4) f [.d (.ref 0), .d (.lst (reads.map sgD))] (pen ns i v :: r)) G ⟨⟩ := by
  refine vc_run hf rfl ?_
  show V (ex _ _ _ (bSomeW d l) ⟨[.d (.ref 0), .d (.lst (reads.map sgD)), .hole, .hole], pen ns i v :: r⟩) _ _
  unfold bSomeW
  sizeOf_list_dec
  refine draw_ok hw hd (by omega) (by omega) h2 (by omega) fun i1 v1 z1 h4 h5 h6 h7 => ?_
  sizeOf_list_dec
  refine x_atP (P := fun x => ∃ u : Nat, x = .int u ∧ u ≤ 14) h6 (by simpa using h7) (by
    intro x hx
    simp only [List.mem_cons, List.not_mem_nil, or_false] at hx
    rcases hx with rfl | rfl
    · exact ⟨4, rfl, by omega⟩
    · exact ⟨14, rfl, by omega⟩) ?_
  rintro _ ⟨u, rfl, hu⟩
  sizeOf_list_dec
  refine word_ok hw hd hl (m := u) (by intro e; rw [e] at hr; simp at hr) (by omega) (by omega) (by omega) (by omega) fun i2 v2 cs h8 h9 h10 h11 => ?_
  array_get_dec
  refine draw_ok hw hd (by omega) (by omega) (by omega) (by omega) fun i3 v3 z2 h12 h13 h14 h15 => ?_
  sizeOf_list_dec
  refine br (fun _ => ?_) (fun _ => ?_)
  · sizeOf_list_dec
    rw [tx_len]
    refine ⟨by omega, ?_⟩
    refine draw_ok hw hd (by omega) (by omega) (by omega) (by omega) fun i4 v4 z3 h16 h17 h18 h19 => ?_
    sizeOf_list_dec
    rw [tx_len]
    refine ⟨by omega, ?_⟩
    refine draw_ok hw hd (by omega) (by omega) (by omega) (by omega) fun i5 v5 z4 h20 h21 h22 h23 => ?_
    rw [alpha_tx]
    sizeOf_list_dec
    refine tx_at h22 (by simpa [alpha] using h23) (by simp [alpha]) ?_
    have hz : z4.toNat < alpha.length := by simp [alpha]; omega
    rw [show sgD (alpha[z4.toNat]'hz) = .str (tx [alpha[z4.toNat]'hz]) from rfl]
    generalize alpha[z4.toNat]'hz = c
    sizeOf_list_dec
    obtain ⟨a, ea, ha⟩ := cutS_ok (cs := cs) (lo := none) (hi := some z3)
    obtain ⟨b, eb, hb⟩ := cutS_ok (cs := cs) (lo := some z3) (hi := none)
    rw [ea, eb, tx_add, tx_add]
    simp only [tx_len, List.length_append, List.length_cons, List.length_nil]
    refine ⟨by omega, by omega, by omega, ?_⟩
    sizeOf_list_dec
    exact k _ _ _ (by omega) (by omega) (by simp; omega)
  · sizeOf_list_dec
    exact k _ _ _ (by omega) (by omega) (by omega)
end
section
set_option maxHeartbeats 4000000
/-! Lw: givers told -/
open PySem
variable {tb : Tab} {wf n : Nat} {G : O → List O → Prop} {h : List O}
theorem cutS_le {cs : List Nat} {sz : Nat} : ∃ cs', L2.cutS (tx cs) none (some (sz : Int)) = tx cs' ∧ cs'.length ≤ sz := by
  refine ⟨_, rfl, ?_⟩
  rw [List.length_take, HT.sIx_nat]
  omega
theorem giv_len {kk : Nat} {sts : List Stt} {reads tells : List Nat} (ok : MachAll kk reads tells sts) (htl : ∀ c ∈ tells, isL c) (hS : 0 < sts.length) {cs : List Nat} (hc : cs.length ≤ 1000) : ∀ l, giv sts (led sts cs 0 0 (List.replicate kk [])) = some l → l.length ≤ 2 * (kk + 1) + cs.length * (kk * (2 * (kk + 1))) := by
  intro l hl
  cases e : led sts cs 0 0 (List.replicate kk []) with
  | none => rw [e] at hl; cases hl
  | some x =>
    obtain ⟨s', full'⟩ := x
    obtain ⟨a, b, d, f⟩ := led_some ok htl (M := 1000000) hS (by simp) (by
      intro c hc x hx
      rw [(List.mem_replicate.mp hc).2] at hx
      cases hx) (by omega) e
    rw [e] at hl
    simp only [giv, show sts.getD s' ([], none) = sts[s'] from by simp [a]] at hl
    cases e2 : sts[s'].2 with
    | none => rw [e2] at hl; cases hl
    | some row =>
      rw [e2] at hl
      cases hl
      have hr := (ok _ (List.getElem_mem a)).2.2 row e2
      have h1 := pour_row (pl := -1) b hr
      rw [nil_tot] at f
      omega
theorem sh_cnO {k : Nat} {o : Option (List Ct)} (hp : ∀ l, o = some l → l.length ≤ k ∧ ∀ x ∈ l, CtOk 1000000 x) : Sh (k * 85) 2 (cnO o) := by
  cases o with
  | none => exact sh_non.mono (by omega) (by omega)
  | some l =>
    obtain ⟨b, c⟩ := hp l rfl
    exact sh_cn (M := 1000000) (by omega) c b
theorem nref_cnO {o : Option (List Ct)} : nref (cnO o) = true := by cases o <;> rfl
theorem nref_sdO' {o : Option (List Ct)} : nref (sdO o) = true := by cases o <;> rfl
def bGivers (w : Nat) : S := (.sq (.ret (.omt "givers" (.call w (.cons (.var 0) (.cons (.var 1) .nil))) .nil)) .nil)
def dGivers (w : Nat) : Df := ⟨2, 2, [false, false], bGivers w⟩
section
variable {mv po sd ini st fe gi an : Nat}
theorem givers_ok (R : Rdg tb mv po sd ini st fe gi an) {w f : Nat} (hw : tb.defs[w]? = some dWhole) (hf : tb.defs[f]? = some (dGivers w)) {kk : Nat} {sts : List Stt} {reads tells : List Nat} (ok : MachAll kk reads tells sts) (hk : kk ≤ 10) (hS : 0 < sts.length) {cs : List Nat} (hc : cs.length ≤ 1000)
    (k : ∀ o, G (.d (cnO (giv sts (led sts cs 0 0 (List.replicate kk []))))) (h ++ [o])) : Vc (run tb wf (n + 5) f [.d (machD kk sts), .d (.str (tx cs))] h) G ⟨⟩ := by
  refine vc_run hf rfl ?_
  show V (ex _ _ _ (bGivers w) ⟨[.d (machD kk sts), .d (.str (tx cs))], h⟩) _ _
  unfold bGivers
  sizeOf_list_dec
  refine whole_ok R hw ok hk hS hc fun o ho => ?_
  have ho2 := ho
  generalize led sts cs 0 0 (List.replicate kk []) = x at ho ho2 k
  rcases ho with ⟨s, full, t, rfl, rfl, hs, hfl, ht⟩ | ⟨rfl, full, t, rfl⟩
  all_goals
    unfold rdgO
    sizeOf_list_dec
    rw [R.mgi]
    sizeOf_list_dec
    refine giv_ok R.f_po R.f_gi ok hk ho2 ?_
    sizeOf_list_dec
    exact k _
end
def bSomeN (d l m : Nat) : S := (.sq (.asg (.var 1) (.call l (.cons (.var 0) (.cons (.bin .add (.con (.int 1)) (.call d (.cons (.var 0) (.cons (.con (.int 4)) .nil)))) .nil)))) (.sq (.asg (.var 2) (.call l (.cons (.var 0) (.cons (.bin .add (.con (.int 1)) (.call d (.cons (.var 0) (.cons (.con (.int 3)) .nil)))) .nil)))) (.sq (.ret (.tup (.cons (.call m (.cons (.var 0) (.cons (.var 1) (.cons (.var 2) (.cons (.bin .add (.con (.int 1)) (.call d (.cons (.var 0) (.cons (.con (.int 6)) .nil)))) (.cons (.call d (.cons (.var 0) (.cons (.con (.int 7)) .nil))) .nil)))))) (.cons (.var 1) .nil)))) .nil)))
def dSomeN (d l m : Nat) : Df := ⟨1, 3, [true], bSomeN d l m⟩
theorem someN_ok {w d l x q m f : Nat} (hw : tb.defs[w]? = some dWell) (hd : tb.defs[d]? = some (dDraw w)) (hl : tb.defs[l]? = some (dLetters d)) (hx : tb.defs[x]? = some (dMix d)) (hq : tb.defs[q]? = some (dRows d x)) (hm : tb.defs[m]? = some (dMachine d x q)) (hf : tb.defs[f]? = some (dSomeN d l m)) {ns : List Int} {i v : Int} {r : List O} (h2 : 0 ≤ i) (h3 : i ≤ 100000000000)
    (k : ∀ (i' v' : Int) (r' : List O) (kk : Nat) (reads tells : List Nat) (sts : List Stt), i ≤ i' → i' ≤ i + 1300000000 → kk ≤ 6 → 0 < sts.length → sts.length ≤ 40 → 0 < reads.length → reads.length ≤ 4 → (∀ c ∈ reads, isL c) → (∀ c ∈ tells, isL c) → MachAll kk reads tells sts → G (.d (.tup [machD kk sts, .lst (reads.map sgD)])) (pen ns i' v' :: r')) :
    Vc (run tb wf (n + 6) f [.d (.ref 0)] (pen ns i v :: r)) G ⟨⟩ := by
  refine vc_run hf rfl ?_
  show V (ex _ _ _ (bSomeN d l m) ⟨[.d (.ref 0), .hole, .hole], pen ns i v :: r⟩) _ _
  unfold bSomeN
  sizeOf_list_dec
  refine draw_ok hw hd (by omega) (by omega) h2 (by omega) fun i1 v1 z1 h4 h5 h6 h7 => ?_
  obtain ⟨z1, rfl⟩ := Int.eq_ofNat_of_zero_le h6
  sizeOf_list_dec
  rw [show (1 : Int) + (z1 : Int) = ((1 + z1 : Nat) : Int) from by omega]
  refine letters_ok hw hd hl (by omega) (by omega) (by omega) fun i2 v2 reads h8 h9 h10 h11 h12 => ?_
  sizeOf_list_dec
  refine draw_ok hw hd (by omega) (by omega) (by omega) (by omega) fun i3 v3 z2 h13 h14 h15 h16 => ?_
  obtain ⟨z2, rfl⟩ := Int.eq_ofNat_of_zero_le h15
  sizeOf_list_dec
  rw [show (1 : Int) + (z2 : Int) = ((1 + z2 : Nat) : Int) from by omega]
  refine letters_ok hw hd hl (by omega) (by omega) (by omega) fun i4 v4 tells h17 h18 h19 h20 h21 => ?_
  sizeOf_list_dec
  rw [fl_of hm]
  unfold dMachine
  sizeOf_list_dec
  refine draw_ok hw hd (by omega) (by omega) (by omega) (by omega) fun i6 v6 z4 h26 h27 h28 h29 => ?_
  obtain ⟨z4, rfl⟩ := Int.eq_ofNat_of_zero_le h28
  sizeOf_list_dec
  refine draw_ok hw hd (by omega) (by omega) (by omega) (by omega) fun i7 v7 kk h30 h31 h32 h33 => ?_
  obtain ⟨kk, rfl⟩ := Int.eq_ofNat_of_zero_le h32
  sizeOf_list_dec
  rw [show (1 : Int) + (z4 : Int) = ((1 + z4 : Nat) : Int) from by omega]
  refine machine_ok hw hd hx hq hm (by omega) (by intro e; rw [e] at h19; simp at h19; omega) (by omega) (by omega) (by omega) (by omega) (by omega) (by omega) fun i8 v8 sts r' h34 h35 hmo => ?_
  sizeOf_list_dec
  have hall : MachAll kk reads tells sts := by
    intro st hst
    have := hmo.2 st hst
    rwa [← hmo.1] at this
  refine k _ _ _ kk reads tells sts (by omega) (by omega) (by omega) (by rw [hmo.1]; omega) (by rw [hmo.1]; omega) (by omega) (by omega) h11 h20 hall
theorem x_min {i j : Int} {K : O → Prop} {t : Tag K} : X (bltop .min2 [.d (.int i), .d (.int j)]) K t = K (.d (.int (if j < i then j else i))) := by simp [X, bltop, bMin]
theorem x_mulS {cs : List Nat} {k : Nat} (hk : k ≤ 1000) (hc : cs.length ≤ 10000) {K : O → Prop} {t : Tag K} : X (binop .mul (.d (.str (tx cs))) (.d (.int k))) K t = K (.d (.str (tx (List.replicate k cs).flatten))) := by
  have c : (decide (0 ≤ (k : Int)) && decide ((k : Int) ≤ 1000) && decide ((tx cs).length ≤ 10000)) = true := by rw [tx_len]; simp; omega
  have hb : binop .mul (.d (.str (tx cs))) (.d (.int k)) = some (.d (.str (tx (List.replicate k cs).flatten))) := by
    simp only [binop, bmul]
    rw [if_pos c, Int.toNat_natCast]
    rfl
  simp [X, hb]
theorem x_size {kk : Nat} {a b : Int} {K : D → Prop} (k : ∀ s : Int, (kk ≤ 1 ∧ s = a ∨ s = b) → K (.int s)) : X (L2.atI [D.int a, .int a, .int b] (if (kk : Int) < 2 then (kk : Int) else 2)) K ⟨⟩ := by
  match kk with
  | 0 => exact ⟨_, rfl, k a (.inl ⟨by omega, rfl⟩)⟩
  | 1 => exact ⟨_, rfl, k a (.inl ⟨by omega, rfl⟩)⟩
  | n + 2 =>
    rw [if_neg (by omega)]
    exact ⟨_, rfl, k b (.inr rfl)⟩
end
section
set_option maxHeartbeats 4000000
/-! Lw: sound machines of any kind, the laws' own reading of them -/
open PySem
variable {tb : Tab} {wf n : Nat} {G : O → List O → Prop} {h : List O}
theorem nd_perm : ∀ {l R : List Nat}, l.Nodup → (∀ d ∈ l, d ∈ R) → ∃ lost, (l ++ lost).Perm R
  | [], R, _, _ => ⟨R, .refl _⟩
  | a :: l, R, nd, hm => by
    rw [List.nodup_cons] at nd
    have ha := hm a (List.mem_cons_self ..)
    obtain ⟨lost, p⟩ := nd_perm (l := l) (R := R.erase a) nd.2 fun d hd => (List.mem_erase_of_ne (fun e => nd.1 (by rw [← e]; exact hd))).mpr (hm d (List.mem_cons_of_mem _ hd))
    exact ⟨lost, (p.cons a).trans (List.perm_cons_erase ha).symm⟩
theorem nd_le {l R : List Nat} (nd : l.Nodup) (hm : ∀ d ∈ l, d ∈ R) : l.length ≤ R.length := by
  obtain ⟨lost, p⟩ := nd_perm nd hm
  have := p.length_eq
  rw [List.length_append] at this
  omega
theorem alpha_mem {c : Nat} (h : isL c) : c ∈ alpha := List.mem_map.mpr ⟨c - 97, List.mem_range.mpr (by unfold isL at h; omega), by unfold isL at h; omega⟩
theorem let_le {l : List Nat} (nd : l.Nodup) (h : ∀ c ∈ l, isL c) : l.length ≤ 26 := by
  have := nd_le nd fun d hd => alpha_mem (h d hd)
  simpa [alpha] using this
def EndW (k B : Nat) (row : List It) : Prop := (drs row).Nodup ∧ (∀ d ∈ drs row, d < k) ∧ (lts row).length ≤ B ∧ ∀ c ∈ lts row, isL c
def RowsW (k B : Nat) (rows : List (List It)) : Prop := rows.length = k ∧ (rows.flatMap drs).Nodup ∧ (∀ d ∈ rows.flatMap drs, d < k) ∧ ∀ row ∈ rows, (lts row).length ≤ B ∧ ∀ c ∈ lts row, isL c
structure StW (k B S : Nat) (st : Stt) : Prop where
  nd : (st.1.map (·.1)).Nodup
  mv : ∀ m ∈ st.1, isL m.1 ∧ m.2.1 < S ∧ RowsW k B m.2.2
  fin : ∀ row, st.2 = some row → EndW k B row
structure MW (k B : Nat) (sts : List Stt) : Prop where
  hk : k ≤ 60
  hb : B ≤ 1000
  hs : 0 < sts.length
  st : ∀ st ∈ sts, StW k B sts.length st
theorem StW.moves {k B S : Nat} {st : Stt} (h : StW k B S st) : st.1.length ≤ 26 := by
  have := let_le h.nd fun c hc => by
    obtain ⟨m, hm, rfl⟩ := List.mem_map.mp hc
    exact (h.mv m hm).1
  rwa [List.length_map] at this
theorem RowsW.drs {k B : Nat} {rows : List (List It)} (h : RowsW k B rows) {row : List It} (hr : row ∈ rows) {d : Nat} (hd : d ∈ Lw.drs row) : d < k := h.2.2.1 d (List.mem_flatMap.mpr ⟨row, hr, hd⟩)
theorem sum_le_range {k : Nat} {l : List Nat} (f : Nat → Nat) (nd : l.Nodup) (hl : ∀ d ∈ l, d < k) : (l.map f).sum ≤ ((List.range k).map f).sum := by
  obtain ⟨lost, p⟩ := nd_perm nd fun d hd => List.mem_range.mpr (hl d hd)
  have := (p.map f).sum_nat
  rw [List.map_append, List.sum_append] at this
  omega
theorem totW_step {full : List (List Ct)} {pl : Int} {k B : Nat} {rows : List (List It)} (hf : full.length = k) (hr : RowsW k B rows) : tot (rows.map (pour full pl)) ≤ tot full + k * B := by
  obtain ⟨h1, h2, h3, h4⟩ := hr
  have a := sum_rows (full := full) (pl := pl) (b := B) fun row hrow => (h4 row hrow).1
  have b := sum_le_range (fun d => (full.getD d []).length) h2 h3
  rw [← hf, sum_range] at b
  rw [h1] at a
  omega
theorem pourW_row {full : List (List Ct)} {pl : Int} {k B : Nat} {row : List It} (hf : full.length = k) (hr : EndW k B row) : (pour full pl row).length ≤ B + tot full := by
  obtain ⟨h1, h2, h3, _⟩ := hr
  rw [pour_len]
  have b := sum_le_range (fun d => (full.getD d []).length) h1 h2
  rw [← hf, sum_range] at b
  omega
theorem nd_of {k : Nat} {l lost : List Nat} (p : (l ++ lost).Perm (List.range k)) : l.Nodup ∧ ∀ d ∈ l, d < k :=
  ⟨(List.nodup_append.mp (p.nodup_iff.mpr List.nodup_range)).1, fun d hd => List.mem_range.mp (p.mem_iff.mp (List.mem_append_left _ hd))⟩
theorem rowsW_of {k : Nat} {tells : List Nat} {rows : List (List It)} (h : RowsOk k tells rows) (htl : ∀ c ∈ tells, isL c) : RowsW k (2 * (k + 1)) rows := by
  obtain ⟨h1, ⟨lost, p⟩, h3⟩ := h
  exact ⟨h1, (nd_of p).1, (nd_of p).2, fun row hr => ⟨(h3 row hr).1, fun c hc => htl c ((h3 row hr).2 c hc)⟩⟩
theorem endW_of {k : Nat} {tells : List Nat} {row : List It} (h : RowOk k tells row) (htl : ∀ c ∈ tells, isL c) : EndW k (2 * (k + 1)) row := by
  obtain ⟨⟨lost, p⟩, h2, h3⟩ := h
  exact ⟨(nd_of p).1, (nd_of p).2, h2, fun c hc => htl c (h3 c hc)⟩
theorem mw_of {k : Nat} {reads tells : List Nat} {sts : List Stt} (ok : MachAll k reads tells sts) (hnd : reads.Nodup) (hrl : ∀ c ∈ reads, isL c) (htl : ∀ c ∈ tells, isL c) (hk : k ≤ 60) (hs : 0 < sts.length) : MW k (2 * (k + 1)) sts := by
  refine ⟨hk, by omega, hs, fun st hst => ?_⟩
  obtain ⟨o1, o2, o3⟩ := ok st hst
  exact ⟨o1.nodup hnd, fun m hm => ⟨hrl _ (o1.subset (List.mem_map.mpr ⟨m, hm, rfl⟩)), (o2 m hm).1, rowsW_of (o2 m hm).2 htl⟩, fun row e => endW_of (o3 row e) htl⟩
theorem readW_ok {po f : Nat} (hp : tb.defs[po]? = some dPour) (hf : tb.defs[f]? = some (dRead po)) {kk B : Nat} {sts : List Stt} (ok : MW kk B sts) {cs : List Nat} (hc : cs.length ≤ 250)
    (k : G (.d (cnO (giv sts (led sts cs 0 0 (List.replicate kk []))))) h) : Vc (run tb wf (n + 2) f [.d (machD kk sts), .d (.str (tx cs))] h) G ⟨⟩ := by
  refine vc_run hf rfl ?_
  show V (ex _ _ _ (bRead po) ⟨[.d (machD kk sts), .d (.str (tx cs)), .hole, .hole, .hole, .hole, .hole, .hole, .hole], h⟩) _ _
  unfold bRead
  have hk := ok.hk
  have hB := ok.hb
  have hS := ok.hs
  have hkk : kk * B ≤ 60000 := Nat.mul_le_mul hk hB
  have etx : (tx cs).length = cs.length := by simp [tx, Str.length]
  rw [show machD kk sts = .tup [.int kk, .tup (sts.map stD)] from rfl]
  sizeOf_list_dec
  rw [x_mulL0 (by omega)]
  sizeOf_list_dec
  rw [etx]
  refine ⟨by omega, by simp [rngOk]; omega, ?_⟩
  sizeOf_list_dec
  refine v_forR (fun j s' => ∃ (s1 : Nat) (full : List (List Ct)) (o4 o6 : O), led sts (cs.drop j) j s1 full = led sts cs 0 0 (List.replicate kk []) ∧ s1 < sts.length ∧ full.length = kk ∧ tot full ≤ j * 60000 ∧ s' = ⟨[.d (.tup [.int kk, .tup (sts.map stD)]), .d (.str (tx cs)), .d (.int s1), .lst (full.map cnD), o4, .hole, o6, .hole, .hole], h⟩) ?_ ?_ ?_
  · refine ⟨0, List.replicate kk [], .hole, .hole, rfl, hS, by simp, by rw [nil_tot]; omega, ?_⟩
    simp
  · rintro j s' hj ⟨s1, full, o4, o6, hl, hs1, hfl, ht, rfl⟩
    have hd : cs.drop j = cs[j] :: cs.drop (j + 1) := List.drop_eq_getElem_cons hj
    have hst : sts.getD s1 ([], none) = sts[s1] := by simp [hs1]
    have okst := ok.st _ (List.getElem_mem hs1)
    have hml : sts[s1].1.length ≤ 26 := okst.moves
    rw [hd, led, hst, find_filter] at hl
    sizeOf_list_dec
    refine atI_mapD (by omega) (by omega) ?_
    simp only [Int.toNat_natCast]
    rw [show stD sts[s1] = .tup [.tup (sts[s1].1.map mvD), endD sts[s1].2] from rfl]
    sizeOf_list_dec
    refine v_compL (fun u acc s' => ∃ o, acc = ((sts[s1].1.take u).filter fun m => m.1 == cs[j]).map mvD ∧ s' = ⟨[.d (.tup [.int kk, .tup (sts.map stD)]), .d (.str (tx cs)), .d (.int s1), .lst (full.map cnD), .d (.int j), .hole, o6, o, .hole], h⟩) ⟨.hole, rfl, rfl⟩ ?_ ?_
    · rintro u acc s' hu ⟨o, rfl, rfl⟩
      rw [List.length_map] at hu
      rw [List.getElem_map]
      rw [show mvD (sts[s1].1[u]) = .tup [.str (ltr (sts[s1].1[u]).1), .int (sts[s1].1[u]).2.1, .tup ((sts[s1].1[u]).2.2.map rowD)] from rfl]
      sizeOf_list_dec
      refine tx_at (by omega) (by omega) (by omega) ?_
      simp only [Int.toNat_natCast]
      rw [show sgD cs[j] = .str (ltr cs[j]) from rfl]
      sizeOf_list_dec
      rw [ltr_inj]
      have et : ((sts[s1].1.take (u + 1)).filter fun m => m.1 == cs[j]) = ((sts[s1].1.take u).filter fun m => m.1 == cs[j]) ++ if (sts[s1].1[u]).1 == cs[j] then [sts[s1].1[u]] else [] := by
        rw [List.take_add_one, List.getElem?_eq_getElem hu, List.filter_append]
        simp only [Option.toList_some, List.filter_cons, List.filter_nil]
      refine br (fun he => ?_) (fun he => ?_)
      · have he := of_decide_eq_true he
        sizeOf_list_dec
        have hlf := List.length_filter_le (fun m : Mv => m.1 == cs[j]) (sts[s1].1.take u)
        rw [List.length_take] at hlf
        refine ⟨by rw [List.length_map]; unfold sizeLine; omega, _, ?_, rfl⟩
        rw [et, if_pos (by simpa using he), List.map_append]
        rfl
      · have he := of_decide_eq_false he
        refine ⟨_, ?_, rfl⟩
        rw [et, if_neg (by simpa using he), List.append_nil]
    rintro acc s' ⟨o, ha, rfl⟩
    rw [List.length_map, List.take_length] at ha
    subst ha
    have hfm : ∀ m ∈ sts[s1].1.filter (fun m => m.1 == cs[j]), m ∈ sts[s1].1 := fun m hm => (List.mem_filter.mp hm).1
    generalize sts[s1].1.filter (fun m => m.1 == cs[j]) = some at hl hfm ⊢
    sizeOf_list_dec
    array_get_dec
    rw [x_eqN (fun x hx => by
      obtain ⟨m, hm, rfl⟩ := List.mem_map.mp hx
      exact dk_mv (okst.mv m (hfm m hm)).1 fun row hrow => (((okst.mv m (hfm m hm)).2.2).2.2.2 row hrow).2)]
    cases some with
    | nil =>
      simp only [List.map_nil, List.isEmpty_nil]
      rw [← hl] at k
      sizeOf_list_dec
      exact k
    | cons m r =>
      obtain ⟨g, m1, rows⟩ := m
      obtain ⟨_, hmg, hrows⟩ := okst.mv _ (hfm _ (List.mem_cons_self ..))
      dsimp only [List.head?_cons] at hl hmg hrows
      have hstep := totW_step (pl := (j : Int)) hfl hrows
      rw [List.map_cons, show mvD (g, m1, rows) = .tup [.str (ltr g), .int m1, .tup (rows.map rowD)] from rfl]
      simp only [List.isEmpty_cons]
      sizeOf_list_dec
      refine v_compL (fun u acc s' => ∃ o o3, acc = (rows.take u).map (fun row => cnD (pour full j row)) ∧ (o3 = .lst (full.map cnD) ∨ o3 = .d (.lst (full.map cnD))) ∧ s' = ⟨[.d (.tup [.int kk, .tup (sts.map stD)]), .d (.str (tx cs)), .d (.int s1), o3, .d (.int j), .hole, .lst ((D.tup [.str (ltr g), .int m1, .tup (rows.map rowD)]) :: r.map mvD), .hole, o], h⟩) ⟨.hole, _, rfl, .inl rfl, rfl⟩ ?_ ?_
      · rintro u acc s' hu ⟨o, o3, rfl, ho3, rfl⟩
        rw [List.length_map] at hu
        rw [List.getElem_map]
        have hmem : rows[u] ∈ rows := List.getElem_mem hu
        have hpl : (pour full j rows[u]).length ≤ tot (rows.map (pour full j)) := mem_tot (List.mem_map.mpr ⟨_, hmem, rfl⟩)
        have fin : ∀ (o3 : O), (o3 = .lst (full.map cnD) ∨ o3 = .d (.lst (full.map cnD))) → ∃ (o o3' : O), (rows.take u).map (fun row => cnD (pour full j row)) ++ [D.tup ((pour full j rows[u]).map ctD)] = (rows.take (u + 1)).map (fun row => cnD (pour full j row)) ∧ (o3' = .lst (full.map cnD) ∨ o3' = .d (.lst (full.map cnD))) ∧ (⟨[.d (.tup [.int kk, .tup (sts.map stD)]), .d (.str (tx cs)), .d (.int s1), o3, .d (.int j), .hole, .lst ((D.tup [.str (ltr g), .int m1, .tup (rows.map rowD)]) :: r.map mvD), .hole, .d (rowD rows[u])], h⟩ : St) = ⟨[.d (.tup [.int kk, .tup (sts.map stD)]), .d (.str (tx cs)), .d (.int s1), o3', .d (.int j), .hole, .lst ((D.tup [.str (ltr g), .int m1, .tup (rows.map rowD)]) :: r.map mvD), .hole, o], h⟩ := by
          intro o3 h3
          refine ⟨_, o3, ?_, h3, rfl⟩
          rw [List.take_add_one, List.getElem?_eq_getElem hu, List.map_append]
          rfl
        rcases ho3 with rfl | rfl
        · sizeOf_list_dec
          rw [fl_of hp]
          unfold dPour
          sizeOf_list_dec
          refine pour_ok hp (.inr rfl) (fun d hd => by rw [hfl]; exact hrows.drs hmem hd) (by omega) ?_
          unfold cnD
          sizeOf_list_dec
          refine ⟨by rw [List.length_map, List.length_take]; have := hrows.1; unfold sizeLine; omega, fin _ (.inr rfl)⟩
        · sizeOf_list_dec
          refine pour_ok hp (.inr rfl) (fun d hd => by rw [hfl]; exact hrows.drs hmem hd) (by omega) ?_
          unfold cnD
          sizeOf_list_dec
          refine ⟨by rw [List.length_map, List.length_take]; have := hrows.1; unfold sizeLine; omega, fin _ (.inr rfl)⟩
      · rintro acc s' ⟨o, o3, ha, ho3, rfl⟩
        rw [List.length_map, List.take_length] at ha
        subst ha
        sizeOf_list_dec
        refine ⟨m1, rows.map (pour full j), .d (.int j), .lst ((D.tup [.str (ltr g), .int m1, .tup (rows.map rowD)]) :: r.map mvD), hl, hmg, by rw [List.length_map]; exact hrows.1, by omega, ?_⟩
        rw [List.map_map]
        rfl
  · rintro s' ⟨s1, full, o4, o6, hl, hs1, hfl, ht, rfl⟩
    rw [List.drop_length, led] at hl
    have hst : sts.getD s1 ([], none) = sts[s1] := by simp [hs1]
    rw [← hl] at k
    simp only [giv, hst] at k
    sizeOf_list_dec
    refine atI_mapD (by omega) (by omega) ?_
    simp only [Int.toNat_natCast]
    rw [show stD sts[s1] = .tup [.tup (sts[s1].1.map mvD), endD sts[s1].2] from rfl]
    have hrow := (ok.st _ (List.getElem_mem hs1)).fin
    generalize sts[s1].2 = e at hrow k ⊢
    cases e with
    | none =>
      simp only [endD]
      sizeOf_list_dec
      exact k
    | some row =>
      have hr := hrow row rfl
      have hl := pourW_row (pl := -1) hfl hr
      simp only [endD, rowD]
      sizeOf_list_dec
      rw [fl_of hp]
      unfold dPour
      sizeOf_list_dec
      refine pour_ok hp (.inr rfl) (fun d hd => by rw [hfl]; exact hr.2.1 _ hd) (by omega) ?_
      sizeOf_list_dec
      exact k
end
section
set_option maxHeartbeats 4000000
/-! Lw: sound machines are known as such -/
open PySem
variable {tb : Tab} {wf n : Nat} {G : O → List O → Prop} {h : List O}
theorem v_cmpM {α : Type} {s : St} {G : List D → St → Prop} {f : D → M (Option D)} {xs : List α} (g : α → D) (u : α → D) (I : St → Prop) (h0 : I s) (st : ∀ x ∈ xs, ∀ s, I s → V (f (g x) s) (fun o s' => o = some (u x) ∧ I s') ⟨⟩) (hl : xs.length ≤ sizeLine) (fin : ∀ s, I s → G (xs.map u) s) : V (compL f (xs.map g) [] s) G ⟨⟩ := by
  refine v_compL (fun i acc s => acc = (xs.take i).map u ∧ I s) ⟨by simp, h0⟩ ?_ ?_
  · rintro i acc s hi ⟨rfl, hI⟩
    rw [List.length_map] at hi
    rw [List.getElem_map]
    refine (st _ (List.getElem_mem hi) s hI).mono fun o s' ⟨e, k⟩ => ?_
    subst e
    refine ⟨by rw [List.length_map, List.length_take]; omega, ?_, k⟩
    rw [List.take_add_one, List.getElem?_eq_getElem hi, List.map_append]
    rfl
  · rintro acc s ⟨rfl, hI⟩
    rw [List.length_map, List.take_length]
    exact fin _ hI
theorem x_allY {α : Type} {xs : List α} {K : O → Prop} {t : Tag K} : X (bltop .all [.lst (xs.map fun _ => D.bl true)]) K t = K (.d (.bl true)) := by
  have e : ∀ xs : List α, blsOf (xs.map fun _ => D.bl true) = some (xs.map fun _ => true) := by
    intro xs
    induction xs with
    | nil => rfl
    | cons a r ih => rw [List.map_cons, blsOf, ih]; rfl
  have b : bltop .all [.lst (xs.map fun _ => D.bl true)] = some (.d (.bl true)) := by
    simp only [bltop, bAll, lv, e, Option.map_some]
    congr 3
    simp
  simp [X, b]
theorem x_alpha {c : Nat} (hc : isL c) {K : Bool → Prop} {t : Tag K} : X (cmpop .isin (.d (.str (ltr c))) (.d (.str "abcdefghijklmnopqrstuvwxyz"))) K t = K true := by
  have all : ∀ c ∈ alpha, cmpop .isin (.d (.str (ltr c))) (.d (.str "abcdefghijklmnopqrstuvwxyz")) = some true := by decide +kernel
  simp [X, all c (alpha_mem hc)]
def bWhl : S := (.sq (.ret (.and (.blt .isi (.cons (.var 0) (.cons (.con (.ty "int")) .nil))) (.and (.not (.blt .isi (.cons (.var 0) (.cons (.con (.ty "bool")) .nil)))) (.one (.cmp .ge (.var 0) (.var 1)))))) .nil)
def dWhl : Df := ⟨2, 2, [false, false], bWhl⟩
theorem whl_ok {f : Nat} (hf : tb.defs[f]? = some dWhl) {d : Nat} (k : G (.d (.bl true)) h) : Vc (run tb wf (n + 1) f [.d (.int d), .d (.int 0)] h) G ⟨⟩ := by
  refine vc_run hf rfl ?_
  show V (ex _ _ _ bWhl ⟨[.d (.int d), .d (.int 0)], h⟩) _ _
  unfold bWhl
  sizeOf_list_dec
  rw [decide_eq_true (by omega)]
  exact k
def bTxt : S := (.sq (.ret (.and (.blt .isi (.cons (.var 0) (.cons (.con (.ty "str")) .nil))) (.one (.blt .all (.cons (.comp (.cmp .isin (.var 1) (.con (.str "abcdefghijklmnopqrstuvwxyz"))) (.var 1) (.seq (.var 0)) (.con (.bl true)) [1]) .nil))))) .nil)
def dTxt : Df := ⟨1, 2, [false], bTxt⟩
theorem txt_ok {f : Nat} (hf : tb.defs[f]? = some dTxt) {cs : List Nat} (hc : ∀ c ∈ cs, isL c) (hl : cs.length ≤ 16777216) (k : G (.d (.bl true)) h) : Vc (run tb wf (n + 1) f [.d (.str (tx cs))] h) G ⟨⟩ := by
  refine vc_run hf rfl ?_
  show V (ex _ _ _ bTxt ⟨[.d (.str (tx cs)), .hole], h⟩) _ _
  unfold bTxt
  sizeOf_list_dec
  rw [signs_tx]
  refine v_cmpM sgD (fun _ => .bl true) (fun s => ∃ o, s = ⟨[.d (.str (tx cs)), o], h⟩) ⟨.hole, rfl⟩ ?_ hl ?_
  · rintro c hcc s ⟨o, rfl⟩
    unfold sgD
    sizeOf_list_dec
    rw [x_alpha (hc c hcc)]
    sizeOf_list_dec
    exact ⟨_, rfl⟩
  · rintro s ⟨o, rfl⟩
    sizeOf_list_dec
    rw [x_allY]
    sizeOf_list_dec
    exact k
theorem txtI_ok {f : Nat} (hf : tb.defs[f]? = some dTxt) {d : Nat} (k : G (.d (.bl false)) h) : Vc (run tb wf (n + 1) f [.d (.int d)] h) G ⟨⟩ := by
  refine vc_run hf rfl ?_
  show V (ex _ _ _ bTxt ⟨[.d (.int d), .hole], h⟩) _ _
  unfold bTxt
  sizeOf_list_dec
  exact k
def bLet (x : Nat) : S := (.sq (.ret (.and (.call x (.cons (.var 0) .nil)) (.one (.cmp .eq (.blt .len (.cons (.var 0) .nil)) (.con (.int 1)))))) .nil)
def dLet (x : Nat) : Df := ⟨1, 1, [false], bLet x⟩
theorem let_ok {x f : Nat} (hx : tb.defs[x]? = some dTxt) (hf : tb.defs[f]? = some (dLet x)) {c : Nat} (hc : isL c) (k : G (.d (.bl true)) h) : Vc (run tb wf (n + 2) f [.d (sgD c)] h) G ⟨⟩ := by
  refine vc_run hf rfl ?_
  show V (ex _ _ _ (bLet x) ⟨[.d (sgD c)], h⟩) _ _
  unfold bLet
  rw [show sgD c = .str (tx [c]) from rfl]
  sizeOf_list_dec
  refine txt_ok hx (fun d hd => by rw [List.mem_singleton.mp hd]; exact hc) (by simp) ?_
  sizeOf_list_dec
  rw [tx_len]
  exact ⟨by simp, k⟩
theorem letI_ok {x f : Nat} (hx : tb.defs[x]? = some dTxt) (hf : tb.defs[f]? = some (dLet x)) {d : Nat} (k : G (.d (.bl false)) h) : Vc (run tb wf (n + 2) f [.d (.int d)] h) G ⟨⟩ := by
  refine vc_run hf rfl ?_
  show V (ex _ _ _ (bLet x) ⟨[.d (.int d)], h⟩) _ _
  unfold bLet
  sizeOf_list_dec
  refine txtI_ok hx ?_
  sizeOf_list_dec
  exact k
def bRowI (e w : Nat) : S := (.sq (.ret (.and (.blt .isi (.cons (.var 0) (.cons (.con (.ty "tuple")) .nil))) (.one (.blt .all (.cons (.comp (.or (.call e (.cons (.var 1) .nil)) (.one (.callD w (.cons (.var 1) .nil) [.inl 0]))) (.var 1) (.seq (.var 0)) (.con (.bl true)) [1]) .nil))))) .nil)
def dRowI (e w : Nat) : Df := ⟨1, 2, [false], bRowI e w⟩
theorem rowI_ok {x e w f : Nat} (hx : tb.defs[x]? = some dTxt) (he : tb.defs[e]? = some (dLet x)) (hw : tb.defs[w]? = some dWhl) (hf : tb.defs[f]? = some (dRowI e w)) {row : List It} (hc : ∀ c ∈ lts row, isL c) (hl : row.length ≤ 16777216) (k : G (.d (.bl true)) h) : Vc (run tb wf (n + 3) f [.d (rowD row)] h) G ⟨⟩ := by
  refine vc_run hf rfl ?_
  show V (ex _ _ _ (bRowI e w) ⟨[.d (rowD row), .hole], h⟩) _ _
  unfold bRowI rowD
  sizeOf_list_dec
  refine v_cmpM itD (fun _ => .bl true) (fun s => ∃ o, s = ⟨[.d (.tup (row.map itD)), o], h⟩) ⟨.hole, rfl⟩ ?_ hl ?_
  · rintro it hit s ⟨o, rfl⟩
    cases it with
    | s c =>
      simp only [itD, sgD]
      sizeOf_list_dec
      refine let_ok hx he (hc c (List.mem_filterMap.mpr ⟨_, hit, rfl⟩)) ?_
      sizeOf_list_dec
      exact ⟨_, rfl⟩
    | k d =>
      simp only [itD]
      sizeOf_list_dec
      refine letI_ok hx he ?_
      sizeOf_list_dec
      refine whl_ok hw ?_
      sizeOf_list_dec
      exact ⟨_, rfl⟩
  · rintro s ⟨o, rfl⟩
    sizeOf_list_dec
    rw [x_allY]
    sizeOf_list_dec
    exact k
def bDrs : S := (.sq (.ret (.comp (.var 1) (.var 1) (.seq (.var 0)) (.not (.blt .isi (.cons (.var 1) (.cons (.con (.ty "str")) .nil)))) [1])) .nil)
def dDrs : Df := ⟨1, 2, [false], bDrs⟩
theorem drs_ok {f : Nat} (hf : tb.defs[f]? = some dDrs) {row : List It} (hl : row.length ≤ 16777216) (k : G (.lst ((drs row).map natD)) h) : Vc (run tb wf (n + 1) f [.d (rowD row)] h) G ⟨⟩ := by
  refine vc_run hf rfl ?_
  show V (ex _ _ _ bDrs ⟨[.d (rowD row), .hole], h⟩) _ _
  unfold bDrs rowD
  sizeOf_list_dec
  refine v_compL (fun i acc s => acc = (drs (row.take i)).map natD ∧ ∃ o, s = ⟨[.d (.tup (row.map itD)), o], h⟩) ⟨rfl, .hole, rfl⟩ ?_ ?_
  · rintro i acc s hi ⟨rfl, o, rfl⟩
    rw [List.length_map] at hi
    rw [List.getElem_map]
    have et : row.take (i + 1) = row.take i ++ [row[i]] := by rw [List.take_add_one, List.getElem?_eq_getElem hi]; rfl
    have hdl : (drs (row.take i)).length ≤ i := by
      unfold drs
      refine Nat.le_trans (List.length_filterMap_le _ _) ?_
      rw [List.length_take]; omega
    rw [et, drs_app]
    generalize row[i] = it
    cases it with
    | s c =>
      simp only [itD, sgD]
      sizeOf_list_dec
      exact ⟨by simp [drs], _, rfl⟩
    | k d =>
      simp only [itD]
      sizeOf_list_dec
      exact ⟨by rw [List.length_map]; unfold sizeLine; omega, by simp [drs, natD], _, rfl⟩
  · rintro acc s ⟨rfl, o, rfl⟩
    rw [List.length_map, List.take_length]
    sizeOf_list_dec
    exact k
theorem ints_nat {ns : List Nat} : intsOf (ns.map natD) = some (ns.map fun d : Nat => (d : Int)) := by
  induction ns with
  | nil => rfl
  | cons a r ih => rw [List.map_cons, natD, intsOf, ih]; rfl
theorem nat_nd {ns : List Nat} (h : ns.Nodup) : (ns.map fun d : Nat => (d : Int)).Nodup := by
  unfold List.Nodup at h ⊢
  rw [List.pairwise_map]
  exact h.imp fun h e => h (by omega)
theorem x_slen {ns : List Nat} (nd : ns.Nodup) (hl : ns.length < 64) {K : O → Prop} {t : Tag K} : X (bSlen (.d (.lst (ns.map natD)))) K t = K (.d (.int ns.length)) := by
  have : bSlen (.d (.lst (ns.map natD))) = some (.d (.int ns.length)) := by
    simp only [bSlen, lv, ints_nat, List.length_map]
    rw [if_pos (by simp only [Bool.and_eq_true, decide_eq_true_eq]; exact ⟨hl, nat_nd nd⟩)]
  simp [X, this]
def bOnce (d : Nat) : S := (.sq (.asg (.var 2) (.comp2 (.var 4) (.var 3) (.seq (.var 0)) (.con (.bl true)) (.var 4) (.seq (.call d (.cons (.var 3) .nil))) (.con (.bl true)) [3, 4] [4])) (.sq (.ret (.and (.blt .all (.cons (.comp (.cmp .lt (.var 4) (.var 1)) (.var 4) (.seq (.var 2)) (.con (.bl true)) [4]) .nil)) (.one (.cmp .eq (.slen (.var 2)) (.blt .len (.cons (.var 2) .nil)))))) .nil))
def dOnce (d : Nat) : Df := ⟨2, 5, [false, false], bOnce d⟩
theorem once_ok {d f : Nat} (hd : tb.defs[d]? = some dDrs) (hf : tb.defs[f]? = some (dOnce d)) {rows : List (List It)} {x : D} (hx : x = .tup (rows.map rowD) ∨ x = .lst (rows.map rowD)) (hl : ∀ row ∈ rows, row.length ≤ 16777216) {kk : Nat} (hk : kk ≤ 60) (nd : (rows.flatMap drs).Nodup) (lt : ∀ d ∈ rows.flatMap drs, d < kk) (k : G (.d (.bl true)) h) : Vc (run tb wf (n + 2) f [.d x, .d (.int kk)] h) G ⟨⟩ := by
  refine vc_run hf rfl ?_
  show V (ex _ _ _ (bOnce d) ⟨[.d x, .d (.int kk), .hole, .hole, .hole], h⟩) _ _
  unfold bOnce
  have hlen : (rows.flatMap drs).length ≤ 60 := by
    have := nd_le nd fun d hd => List.mem_range.mpr (lt d hd)
    rw [List.length_range] at this
    omega
  have go : V (comp2L (turn2 (tb.cl (run tb wf (n + 1))) tb.fl (.var 4) (.var 3) (.con (.bl true)) (.var 4) (.seq (.call d (.cons (.var 3) .nil))) (.con (.bl true)) [3, 4] [4]) (rows.map rowD) [] ⟨[.d x, .d (.int kk), .hole, .hole, .hole], h⟩) (fun acc s => acc = (rows.flatMap drs).map natD ∧ ∃ o o', s = ⟨[.d x, .d (.int kk), .hole, o, o'], h⟩) ⟨⟩ := by
    refine v_comp2L (fun i acc s => acc = ((rows.take i).flatMap drs).map natD ∧ ∃ o o', s = ⟨[.d x, .d (.int kk), .hole, o, o'], h⟩) ⟨rfl, _, _, rfl⟩ ?_ ?_
    · rintro i acc s hi ⟨rfl, o, o', rfl⟩
      rw [List.length_map] at hi
      rw [List.getElem_map]
      have hm : rows[i] ∈ rows := List.getElem_mem hi
      have et : (rows.take (i + 1)).flatMap drs = (rows.take i).flatMap drs ++ drs rows[i] := by
        rw [List.take_add_one, List.getElem?_eq_getElem hi, List.flatMap_append]
        simp
      have hle : ((rows.take i).flatMap drs ++ drs rows[i]).length ≤ (rows.flatMap drs).length := by
        rw [← et]
        conv => rhs; rw [← List.take_append_drop (i + 1) rows, List.flatMap_append]
        rw [List.length_append]; omega
      have hlr := hl _ hm
      rw [et]
      generalize rows[i] = row at hle hlr
      generalize (rows.take i).flatMap drs = acc at hle
      rw [List.length_append] at hle
      unfold rowD
      sizeOf_list_dec
      refine drs_ok hd hlr ?_
      sizeOf_list_dec
      refine v_compA (fun j a s => a = (acc ++ (drs row).take j).map natD ∧ ∃ o', s = ⟨[.d x, .d (.int kk), .hole, .d (rowD row), o'], h⟩) ⟨by simp, _, rfl⟩ ?_ ?_
      · rintro j a s hj ⟨rfl, o', rfl⟩
        rw [List.length_map] at hj
        rw [List.getElem_map]
        unfold natD
        sizeOf_list_dec
        refine ⟨by rw [List.length_map, List.length_append, List.length_take]; unfold sizeLine; omega, ?_, _, rfl⟩
        rw [List.take_add_one, List.getElem?_eq_getElem hj]
        simp only [List.map_append, Option.toList_some, List.map_cons, List.map_nil, List.append_assoc]
      · rintro a s ⟨rfl, o', rfl⟩
        rw [List.length_map, List.take_length]
        exact ⟨rfl, _, _, rfl⟩
    · rintro acc s ⟨rfl, o, o', rfl⟩
      rw [List.length_map, List.take_length]
      exact ⟨rfl, _, _, rfl⟩
  have hi : ∀ {K : List D → Prop} {t : Tag K}, X (itsOf (.d x)) K t = K (rows.map rowD) := by
    rcases hx with rfl | rfl
    · exact x_itsT
    · exact x_itsL
  generalize rows.flatMap drs = ds at go hlen nd lt
  sizeOf_list_dec
  rw [hi]
  refine go.mono fun acc s ⟨e, o, o', e2⟩ => ?_
  subst e; subst e2
  sizeOf_list_dec
  refine v_cmpM natD (fun _ => .bl true) (fun s => ∃ o, s = ⟨[.d x, .d (.int kk), .d (.lst (ds.map natD)), .hole, o], h⟩) ⟨.hole, rfl⟩ ?_ (by unfold sizeLine; omega) ?_
  · rintro d hd s ⟨o, rfl⟩
    have := lt d hd
    unfold natD
    sizeOf_list_dec
    exact ⟨by rw [decide_eq_true (by omega)], _, rfl⟩
  · rintro s ⟨o, rfl⟩
    sizeOf_list_dec
    rw [x_allY]
    sizeOf_list_dec
    rw [x_slen nd (by omega)]
    sizeOf_list_dec
    rw [List.length_map]
    sizeOf_list_dec
    exact k
end
section
set_option maxHeartbeats 400000
/-! Lw: sound machines are known as such: ends, moves, states, machines -/
open PySem
variable {tb : Tab} {wf n : Nat} {G : O → List O → Prop} {h : List O}
theorem cast2 : decide (¬((2 : Nat) : Int) = 2) = false := by decide
theorem cast3 : decide (¬((3 : Nat) : Int) = 3) = false := by decide
def bEndI (r o : Nat) : S := (.sq (.ret (.or (.cmp .isN (.var 0) (.con .non)) (.one (.and (.call r (.cons (.var 0) .nil)) (.one (.call o (.cons (.lst (.cons (.var 0) .nil)) (.cons (.var 1) .nil)))))))) .nil)
def dEndI (r o : Nat) : Df := ⟨2, 2, [false, false], bEndI r o⟩
def bMovI (e w r o : Nat) : S := (.sq (.ite (.or (.not (.blt .isi (.cons (.var 0) (.cons (.con (.ty "tuple")) .nil)))) (.one (.cmp .ne (.blt .len (.cons (.var 0) .nil)) (.con (.int 3))))) (.sq (.ret (.con (.bl false))) .nil) .nil) (.sq (.asg (.tup (.cons (.var 3) (.cons (.var 4) (.cons (.var 5) .nil)))) (.var 0)) (.sq (.ite (.or (.not (.call e (.cons (.var 3) .nil))) (.or (.not (.callD w (.cons (.var 4) .nil) [.inl 0])) (.one (.cmp .ge (.var 4) (.var 2))))) (.sq (.ret (.con (.bl false))) .nil) .nil) (.sq (.ite (.or (.not (.blt .isi (.cons (.var 5) (.cons (.con (.ty "tuple")) .nil)))) (.or (.cmp .ne (.blt .len (.cons (.var 5) .nil)) (.var 1)) (.one (.not (.blt .all (.cons (.comp (.call r (.cons (.var 6) .nil)) (.var 6) (.seq (.var 5)) (.con (.bl true)) [6]) .nil)))))) (.sq (.ret (.con (.bl false))) .nil) .nil) (.sq (.ret (.call o (.cons (.var 5) (.cons (.var 1) .nil)))) .nil)))))
def dMovI (e w r o : Nat) : Df := ⟨3, 7, [false, false, false], bMovI e w r o⟩
def bSttI (m e : Nat) : S := (.sq (.ite (.or (.not (.blt .isi (.cons (.var 0) (.cons (.con (.ty "tuple")) .nil)))) (.or (.cmp .ne (.blt .len (.cons (.var 0) .nil)) (.con (.int 2))) (.one (.not (.blt .isi (.cons (.idx (.var 0) (.con (.int 0))) (.cons (.con (.ty "tuple")) .nil))))))) (.sq (.ret (.con (.bl false))) .nil) .nil) (.sq (.ite (.or (.not (.blt .all (.cons (.comp (.call m (.cons (.var 3) (.cons (.var 1) (.cons (.var 2) .nil)))) (.var 3) (.seq (.idx (.var 0) (.con (.int 0)))) (.con (.bl true)) [3]) .nil))) (.one (.not (.call e (.cons (.idx (.var 0) (.con (.int 1))) (.cons (.var 1) .nil)))))) (.sq (.ret (.con (.bl false))) .nil) .nil) (.sq (.ret (.cmp .eq (.slenC (.idx (.var 3) (.con (.int 0))) (.var 3) (.seq (.idx (.var 0) (.con (.int 0)))) (.con (.bl true)) [3]) (.blt .len (.cons (.idx (.var 0) (.con (.int 0))) .nil)))) .nil)))
def dSttI (m e : Nat) : Df := ⟨3, 4, [false, false, false], bSttI m e⟩
def bMacI (w s : Nat) : S := (.sq (.ite (.or (.not (.blt .isi (.cons (.var 0) (.cons (.con (.ty "tuple")) .nil)))) (.or (.cmp .ne (.blt .len (.cons (.var 0) .nil)) (.con (.int 2))) (.one (.not (.callD w (.cons (.idx (.var 0) (.con (.int 0))) .nil) [.inl 0]))))) (.sq (.ret (.con (.bl false))) .nil) .nil) (.sq (.asg (.tup (.cons (.var 1) (.cons (.var 2) .nil))) (.var 0)) (.sq (.ite (.or (.not (.blt .isi (.cons (.var 2) (.cons (.con (.ty "tuple")) .nil)))) (.one (.cmp .eq (.blt .len (.cons (.var 2) .nil)) (.con (.int 0))))) (.sq (.ret (.con (.bl false))) .nil) .nil) (.sq (.ret (.blt .all (.cons (.comp (.call s (.cons (.var 3) (.cons (.var 1) (.cons (.blt .len (.cons (.var 2) .nil)) .nil)))) (.var 3) (.seq (.var 2)) (.con (.bl true)) [3]) .nil))) .nil))))
def dMacI (w s : Nat) : Df := ⟨1, 4, [false], bMacI w s⟩
/-- where the defs lie by which a machine is known -/
structure IsM (tb : Tab) (wh tx le ro dr on en mo st ma : Nat) : Prop where
  jwh : tb.defs[wh]? = some dWhl
  jtx : tb.defs[tx]? = some dTxt
  jle : tb.defs[le]? = some (dLet tx)
  jro : tb.defs[ro]? = some (dRowI le wh)
  jdr : tb.defs[dr]? = some dDrs
  jon : tb.defs[on]? = some (dOnce dr)
  jen : tb.defs[en]? = some (dEndI ro on)
  jmo : tb.defs[mo]? = some (dMovI le wh ro on)
  jst : tb.defs[st]? = some (dSttI mo en)
  jma : tb.defs[ma]? = some (dMacI wh st)
section
variable {wh tx le ro dr on en mo st ma : Nat} (R : IsM tb wh tx le ro dr on en mo st ma) {kk B : Nat}
theorem rowW_len {row : List It} (hk : kk ≤ 60) (hB : B ≤ 1000) (nd : (drs row).Nodup) (lt : ∀ d ∈ drs row, d < kk) (hl : (lts row).length ≤ B) : row.length ≤ 2000 := by
  have := nd_le nd fun d hd => List.mem_range.mpr (lt d hd)
  rw [List.length_range] at this
  rw [row_len]
  omega
theorem nd_flat {row : List It} : ∀ {rows : List (List It)}, (rows.flatMap drs).Nodup → row ∈ rows → (drs row).Nodup
  | r :: rs, nd, h => by
    rw [List.flatMap_cons, List.nodup_append] at nd
    rcases List.mem_cons.mp h with rfl | h
    · exact nd.1
    · exact nd_flat nd.2.1 h
theorem RowsW.len {rows : List (List It)} (hk : kk ≤ 60) (hB : B ≤ 1000) (hr : RowsW kk B rows) {row : List It} (h : row ∈ rows) : row.length ≤ 2000 :=
  rowW_len hk hB (nd_flat hr.2.1 h) (fun d hd => hr.drs h hd) (hr.2.2.2 row h).1
include R
theorem endI_ok (hk : kk ≤ 60) (hB : B ≤ 1000) {e : Option (List It)} (he : ∀ row, e = some row → EndW kk B row) (k : G (.d (.bl true)) h) : Vc (run tb wf (n + 4) en [.d (endD e), .d (.int kk)] h) G ⟨⟩ := by
  refine vc_run R.jen rfl ?_
  show V (ex _ _ _ (bEndI ro on) ⟨[.d (endD e), .d (.int kk)], h⟩) _ _
  unfold bEndI
  cases e with
  | none =>
    simp only [endD]
    sizeOf_list_dec
    exact k
  | some row =>
    obtain ⟨h1, h2, h3, h4⟩ := he row rfl
    have hl := rowW_len hk hB h1 h2 h3
    simp only [endD]
    rw [show rowD row = .tup (row.map itD) from rfl]
    sizeOf_list_dec
    refine rowI_ok R.jtx R.jle R.jwh R.jro h4 (by omega) ?_
    sizeOf_list_dec
    rw [fl_of R.jon]
    unfold dOnce
    sizeOf_list_dec
    refine once_ok (rows := [row]) R.jdr R.jon (.inr rfl) (fun r hr => by rw [List.mem_singleton.mp hr]; omega) hk (by simpa using h1) (by simpa using h2) ?_
    sizeOf_list_dec
    exact k
theorem movI_ok (hk : kk ≤ 60) (hB : B ≤ 1000) {S : Nat} {m : Mv} (h1 : isL m.1) (h2 : m.2.1 < S) (hr : RowsW kk B m.2.2) (k : G (.d (.bl true)) h) : Vc (run tb wf (n + 4) mo [.d (mvD m), .d (.int kk), .d (.int S)] h) G ⟨⟩ := by
  refine vc_run R.jmo rfl ?_
  show V (ex _ _ _ (bMovI le wh ro on) ⟨[.d (mvD m), .d (.int kk), .d (.int S), .hole, .hole, .hole, .hole], h⟩) _ _
  unfold bMovI
  obtain ⟨c, g, rows⟩ := m
  dsimp only at h1 h2 hr
  rw [show mvD (c, g, rows) = .tup [sgD c, .int g, .tup (rows.map rowD)] from rfl]
  array_get_dec
  rw [cast3]
  array_get_dec
  refine let_ok R.jtx R.jle h1 ?_
  sizeOf_list_dec
  refine whl_ok R.jwh ?_
  sizeOf_list_dec
  rw [decide_eq_false (by omega)]
  array_get_dec
  rw [List.length_map, hr.1]
  array_get_dec
  refine v_cmpM rowD (fun _ => .bl true) (fun s => ∃ o, s = ⟨[.d (.tup [sgD c, .int g, .tup (rows.map rowD)]), .d (.int kk), .d (.int S), .d (sgD c), .d (.int g), .d (.tup (rows.map rowD)), o], h⟩) ⟨.hole, rfl⟩ ?_ (by rw [hr.1]; unfold sizeLine; omega) ?_
  · rintro row hrow s ⟨o, rfl⟩
    have hl := hr.len hk hB hrow
    sizeOf_list_dec
    refine rowI_ok R.jtx R.jle R.jwh R.jro (hr.2.2.2 row hrow).2 (by omega) ?_
    sizeOf_list_dec
    exact ⟨_, rfl⟩
  · rintro s ⟨o, rfl⟩
    sizeOf_list_dec
    rw [x_allY]
    array_get_dec
    refine once_ok R.jdr R.jon (.inl rfl) (fun row hrow => by have := hr.len hk hB hrow; omega) hk hr.2.1 hr.2.2.1 ?_
    sizeOf_list_dec
    exact k
theorem sttI_ok (hk : kk ≤ 60) (hB : B ≤ 1000) {S : Nat} {s0 : Stt} (hs : StW kk B S s0) (k : G (.d (.bl true)) h) : Vc (run tb wf (n + 5) st [.d (stD s0), .d (.int kk), .d (.int S)] h) G ⟨⟩ := by
  refine vc_run R.jst rfl ?_
  show V (ex _ _ _ (bSttI mo en) ⟨[.d (stD s0), .d (.int kk), .d (.int S), .hole], h⟩) _ _
  unfold bSttI
  obtain ⟨ms, e⟩ := s0
  have hml := hs.moves
  obtain ⟨nd, hm, he⟩ := hs
  dsimp only at nd hm he hml
  rw [show stD (ms, e) = .tup [.tup (ms.map mvD), endD e] from rfl]
  array_get_dec
  rw [cast2]
  array_get_dec
  refine v_cmpM mvD (fun _ => .bl true) (fun s => ∃ o, s = ⟨[.d (.tup [.tup (ms.map mvD), endD e]), .d (.int kk), .d (.int S), o], h⟩) ⟨.hole, rfl⟩ ?_ (by unfold sizeLine; omega) ?_
  · rintro m hmm s ⟨o, rfl⟩
    obtain ⟨a1, a2, a3⟩ := hm m hmm
    sizeOf_list_dec
    refine movI_ok R hk hB a1 a2 a3 ?_
    sizeOf_list_dec
    exact ⟨_, rfl⟩
  rintro s ⟨o, rfl⟩
  sizeOf_list_dec
  rw [x_allY]
  sizeOf_list_dec
  refine endI_ok R hk hB he ?_
  sizeOf_list_dec
  refine v_compSL (fun i acc s => acc = (ms.take i).map (fun m => ltr m.1) ∧ ∃ o, s = ⟨[.d (.tup [.tup (ms.map mvD), endD e]), .d (.int kk), .d (.int S), o], h⟩) ⟨rfl, _, rfl⟩ ?_ ?_
  · rintro i acc s hi ⟨rfl, o, rfl⟩
    rw [List.length_map] at hi
    rw [List.getElem_map]
    have hnew : ltr ms[i].1 ∉ (ms.take i).map (fun m => ltr m.1) := by
      intro hc
      obtain ⟨m, hm1, hm2⟩ := List.mem_map.mp hc
      have e : m.1 = ms[i].1 := of_decide_eq_true ((ltr_inj (a := m.1) (b := ms[i].1)).symm.trans (decide_eq_true hm2))
      have hsplit : ms.map (·.1) = (ms.take i).map (·.1) ++ ms[i].1 :: (ms.drop (i + 1)).map (·.1) := by
        rw [← List.map_cons (f := fun m : Mv => m.1), ← List.drop_eq_getElem_cons hi, ← List.map_append, List.take_append_drop]
      rw [hsplit, List.nodup_append] at nd
      exact nd.2.2 _ (List.mem_map.mpr ⟨m, hm1, rfl⟩) _ (List.mem_cons_self ..) e
    have et : (ms.take (i + 1)).map (fun m => ltr m.1) = addS ((ms.take i).map (fun m => ltr m.1)) (ltr ms[i].1) := by
      unfold addS
      rw [if_neg (by simpa using hnew), List.take_add_one, List.getElem?_eq_getElem hi, List.map_append]
      rfl
    rw [et, show mvD ms[i] = .tup [.str (ltr ms[i].1), .int ms[i].2.1, .tup (ms[i].2.2.map rowD)] from rfl]
    sizeOf_list_dec
    exact ⟨by rw [List.length_map, List.length_take]; omega, _, rfl⟩
  · rintro acc s ⟨ha, o, rfl⟩
    rw [List.length_map, List.take_length] at ha
    subst ha
    sizeOf_list_dec
    simp only [List.length_map]
    sizeOf_list_dec
    exact k
/-- a sound machine is told to be one -/
theorem macI_ok {sts : List Stt} (hm : MW kk B sts) (hS : sts.length ≤ 16777216) (k : G (.d (.bl true)) h) : Vc (run tb wf (n + 6) ma [.d (machD kk sts)] h) G ⟨⟩ := by
  refine vc_run R.jma rfl ?_
  show V (ex _ _ _ (bMacI wh st) ⟨[.d (machD kk sts), .hole, .hole, .hole], h⟩) _ _
  unfold bMacI
  have h0 := hm.hs
  rw [show machD kk sts = .tup [.int kk, .tup (sts.map stD)] from rfl]
  array_get_dec
  rw [cast2]
  array_get_dec
  refine whl_ok R.jwh ?_
  array_get_dec
  rw [List.length_map, decide_eq_false (by omega)]
  array_get_dec
  refine v_cmpM stD (fun _ => .bl true) (fun s => ∃ o, s = ⟨[.d (.tup [.int kk, .tup (sts.map stD)]), .d (.int kk), .d (.tup (sts.map stD)), o], h⟩) ⟨.hole, rfl⟩ ?_ hS ?_
  · rintro s1 hs1 s ⟨o, rfl⟩
    sizeOf_list_dec
    rw [List.length_map]
    refine sttI_ok R hm.hk hm.hb (hm.st s1 hs1) ?_
    sizeOf_list_dec
    exact ⟨_, rfl⟩
  · rintro s ⟨o, rfl⟩
    sizeOf_list_dec
    rw [x_allY]
    sizeOf_list_dec
    exact k
end
end
section
set_option maxHeartbeats 400000
/-! Lw: what a sound machine tells, compared -/
open PySem
theorem pour_ct {full : List (List Ct)} {pl : Int} {row : List It} {M : Nat} (hf : ∀ c ∈ full, ∀ x ∈ c, CtOk M x) (h0 : -1 ≤ pl) (h1 : pl < M) (hl : ∀ c ∈ lts row, isL c) : ∀ x ∈ pour full pl row, CtOk M x := by
  intro x hx
  obtain ⟨it, hit, hx⟩ := List.mem_flatMap.mp hx
  cases it with
  | s c =>
    simp only [pour1, List.mem_singleton] at hx
    subst hx
    exact ⟨hl c (List.mem_filterMap.mpr ⟨_, hit, rfl⟩), h0, h1⟩
  | k d =>
    simp only [pour1] at hx
    rw [List.getD_eq_getElem?_getD] at hx
    cases hd : full[d]? with
    | none => rw [hd] at hx; cases hx
    | some c =>
      rw [hd] at hx
      exact hf c (List.mem_of_getElem? hd) x hx
theorem ledW_ct {kk B M : Nat} {sts : List Stt} (hm : MW kk B sts) : ∀ {cs : List Nat} {p s : Nat} {full : List (List Ct)} {s' : Nat} {full' : List (List Ct)}, s < sts.length → full.length = kk → (∀ c ∈ full, ∀ x ∈ c, CtOk M x) → p + cs.length ≤ M → led sts cs p s full = some (s', full') →
    s' < sts.length ∧ full'.length = kk ∧ ∀ c ∈ full', ∀ x ∈ c, CtOk M x
  | [], p, s, full, s', full', hs, hf, hc, hp, h => by
    simp only [led, Option.some.injEq, Prod.mk.injEq] at h
    obtain ⟨rfl, rfl⟩ := h
    exact ⟨hs, hf, hc⟩
  | c :: r, p, s, full, s', full', hs, hf, hc, hp, h => by
    rw [led] at h
    have hst : sts.getD s ([], none) = sts[s] := by simp [hs]
    rw [hst] at h
    cases hfm : findMv sts[s].1 c with
    | none => rw [hfm] at h; cases h
    | some m =>
      rw [hfm] at h
      dsimp only at h
      obtain ⟨_, hmg, hrows⟩ := (hm.st _ (List.getElem_mem hs)).mv _ (find_mem hfm)
      rw [List.length_cons] at hp
      refine ledW_ct hm (cs := r) (p := p + 1) hmg (by rw [List.length_map]; exact hrows.1) ?_ (by omega) h
      intro c' hc'
      obtain ⟨row, hrow, rfl⟩ := List.mem_map.mp hc'
      exact pour_ct hc (by omega) (by omega) (hrows.2.2.2 row hrow).2
theorem givW_ct {kk B : Nat} {sts : List Stt} (hm : MW kk B sts) {cs : List Nat} (hc : cs.length ≤ 1000000) : ∀ l, giv sts (led sts cs 0 0 (List.replicate kk [])) = some l → ∀ x ∈ l, CtOk 1000000 x := by
  intro l hl
  cases e : led sts cs 0 0 (List.replicate kk []) with
  | none => rw [e] at hl; cases hl
  | some x =>
    obtain ⟨s', full'⟩ := x
    obtain ⟨a, b, d⟩ := ledW_ct hm (M := 1000000) hm.hs (by simp) (by
      intro c hc x hx
      rw [(List.mem_replicate.mp hc).2] at hx
      cases hx) (by omega) e
    rw [e] at hl
    simp only [giv, show sts.getD s' ([], none) = sts[s'] from by simp [a]] at hl
    cases e2 : sts[s'].2 with
    | none => rw [e2] at hl; cases hl
    | some row =>
      rw [e2] at hl
      cases hl
      exact pour_ct d (by omega) (by omega) ((hm.st _ (List.getElem_mem a)).fin row e2).2.2.2
theorem sh_cnW {o : Option (List Ct)} (h : ∀ l, o = some l → ∀ x ∈ l, CtOk 1000000 x) : ∃ m, Sh m 2 (cnO o) := by
  cases o with
  | none => exact ⟨_, sh_cnO (k := 0) (o := none) (by simp)⟩
  | some l => exact ⟨_, sh_cnO (k := l.length) fun l' e => by cases e; exact ⟨Nat.le_refl _, h l rfl⟩⟩
theorem x_neSame {m d : Nat} {x : D} (h : Sh m d x) (hd : d ≤ 64) {K : Bool → Prop} {t : Tag K} : X (cmpop .ne (.d x) (.d x)) K t = K false := by
  obtain ⟨p, a, b, c, e, f, g⟩ := h
  have hs : SeqAt.shaped p = true := by
    unfold SeqAt.shaped
    rw [c, decide_eq_true (by omega)]
    rfl
  have hg : eqg (.d x) (.d x) = some true := by
    simp only [eqg, O.py, a]
    rw [if_pos (by rw [hs]; rfl), SeqAt.eqv_refl _ c]
  have he : eqo (.d x) (.d x) = some true := by
    unfold eqo
    cases x <;> first | (simp only [scEq, hg]; done) | simp [scEq]
  have : cmpop .ne (.d x) (.d x) = some false := by simp [cmpop, he]
  simp [X, this]
end
section
set_option maxHeartbeats 4000000
/-! Lw: a law that takes so many turns with one pen -/
open PySem
variable {tb : Tab} {wf n : Nat} {G : O → List O → Prop} {h : List O}
def S.fb : S → S | .for _ _ b => b | s => s
def S.hdS : S → S | .sq a _ => a | s => s
def S.fi : S → E | .for _ i _ => i | _ => .nil
def bPen : S := (.sq (.ret (.lst (.cons (.blt .lst (.cons (.sl (.var 0) .nil (.one (.con (.int 60)))) .nil)) (.cons (.con (.int 0)) (.cons (.con (.int 0)) .nil))))) .nil)
def dPen : Df := ⟨1, 1, [false], bPen⟩
theorem thePen_ok {f : Nat} (hf : tb.defs[f]? = some dPen) {ns : List Int} (k : G (pen (cutL ns none (some 60)) 0 0) h) : Vc (run tb wf (n + 1) f [.d (.scr ns)] h) G ⟨⟩ := by
  refine vc_run hf rfl ?_
  show V (ex _ _ _ bPen ⟨[.d (.scr ns)], h⟩) _ _
  unfold bPen
  sizeOf_list_dec
  exact k
def bLaw (p N : Nat) (B : S) : S := (.sq (.asg (.var 1) (.call p (.cons (.var 0) .nil))) (.sq (.for (.var 2) (.rng1 (.con (.int N))) B) (.sq (.ret (.con (.bl true))) .nil)))
/-- what a turn leaves -/
def Left (ns pl : List Int) (m : Nat) (i C : Int) (u : D) (w : Flow) (s : St) : Prop := w = .next ∧ ∃ (i' v' : Int) (r' : List O) (os' : List O), os'.length = m ∧ i ≤ i' ∧ i' ≤ i + C ∧ s = ⟨.d (.scr ns) :: .d (.ref 0) :: .d u :: os', pen pl i' v' :: r'⟩
theorem law_ok {p f m N : Nat} {B : S} (hp : tb.defs[p]? = some dPen) (hf : tb.defs[f]? = some ⟨1, m + 3, [false], bLaw p N B⟩) (hN : N ≤ 1000) {ns : List Int} (C : Int) (hC : 0 ≤ C)
    (hturn : ∀ (pl : List Int) (i v : Int) (r os : List O) (u : D), os.length = m → 0 ≤ i → i ≤ C * N → V (ex (tb.cl (run tb wf (n + 1))) tb.fl wf B ⟨.d (.scr ns) :: .d (.ref 0) :: .d u :: os, pen pl i v :: r⟩) (Left ns pl m i C u) ⟨⟩)
    (hfirst : ∀ (pl : List Int) (os : List O) (u : D), os.length = m → V (ex (tb.cl (run tb wf (n + 1))) tb.fl wf B ⟨.d (.scr ns) :: .d (.ref 0) :: .d u :: os, [pen pl 0 0]⟩) (Left ns pl m 0 C u) ⟨⟩ → V (ex (tb.cl (run tb wf (n + 1))) tb.fl wf B ⟨.d (.scr ns) :: pen pl 0 0 :: .d u :: os, []⟩) (Left ns pl m 0 C u) ⟨⟩) :
    ∃ h, run tb wf (n + 2) f [.d (.scr ns)] [] = .ok (.d (.bl true)) h := by
  refine Wc_ex ?_
  have goal : Vc (run tb wf (n + 2) f [.d (.scr ns)] []) (fun o _ => o = .d (.bl true)) ⟨⟩ := by
    refine vc_run hf rfl ?_
    have el : [O.d (.scr ns)] ++ List.replicate (m + 3 - 1) .hole = .d (.scr ns) :: .hole :: .hole :: List.replicate m .hole := by
      rw [show m + 3 - 1 = m + 1 + 1 from rfl, List.replicate_succ, List.replicate_succ]
      rfl
    show V (ex _ _ _ (bLaw p N B) ⟨[O.d (.scr ns)] ++ List.replicate (m + 3 - 1) .hole, []⟩) _ _
    rw [el]
    unfold bLaw
    generalize hos : List.replicate m O.hole = os0
    have hl0 : os0.length = m := by rw [← hos, List.length_replicate]
    sizeOf_list_dec
    refine thePen_ok hp ?_
    generalize cutL ns none (some 60) = pl
    sizeOf_list_dec
    refine ⟨by simp [rngOk]; omega, ?_⟩
    refine v_forR (fun j s => ∃ (i v : Int) (r os : List O) (o1 o2 : O), os.length = m ∧ 0 ≤ i ∧ i ≤ C * j ∧ ((j = 0 ∧ s = ⟨.d (.scr ns) :: pen pl 0 0 :: o2 :: os, []⟩) ∨ s = ⟨.d (.scr ns) :: .d (.ref 0) :: o2 :: os, pen pl i v :: r⟩)) ?_ ?_ ?_
    · exact ⟨0, 0, [], os0, .hole, .hole, hl0, by omega, by simp, .inl ⟨rfl, rfl⟩⟩
    · rintro j s hj ⟨i, v, r, os, o1, o2, hl, h2, h3, hs⟩
      have e1 : C * ((j + 1 : Nat) : Int) = C * j + C := by rw [Int.natCast_add, Int.mul_add]; simp
      have e2 : C * (j : Int) ≤ C * (N : Int) := Int.mul_le_mul_of_nonneg_left (by omega) hC
      rcases hs with ⟨rfl, rfl⟩ | rfl
      · have q := hfirst pl os (.int (0 : Nat)) hl (hturn pl 0 0 [] os (.int (0 : Nat)) hl (by omega) (by omega))
        sizeOf_list_dec
        refine q.mono ?_
        rintro w s ⟨rfl, i', v', r', os', hl', h6, h7, rfl⟩
        refine ⟨i', v', r', os', .hole, _, hl', h6, by omega, .inr rfl⟩
      · have q := hturn pl i v r os (.int (j : Nat)) hl h2 (by omega)
        sizeOf_list_dec
        refine q.mono ?_
        rintro w s ⟨rfl, i', v', r', os', hl', h6, h7, rfl⟩
        refine ⟨i', v', r', os', .hole, _, hl', by omega, by omega, .inr rfl⟩
    · rintro s ⟨i, v, r, os, o1, o2, hl, h2, h3, ⟨hj, rfl⟩ | rfl⟩
      · sizeOf_list_dec
      · sizeOf_list_dec
  rw [Vc_eq] at goal
  exact goal
end
section
set_option maxHeartbeats 4000000
/-! Lw: a law that takes so many turns with one pen -/
open PySem
variable {tb : Tab} {wf n : Nat} {G : O → List O → Prop} {h : List O}
def bLawR (p N : Nat) (B R : S) : S := (.sq (.asg (.var 1) (.call p (.cons (.var 0) .nil))) (.sq (.for (.var 2) (.rng1 (.con (.int N))) B) R))
theorem law_okR {p f m N : Nat} {B R : S} (hp : tb.defs[p]? = some dPen) (hf : tb.defs[f]? = some ⟨1, m + 3, [false], bLawR p N B R⟩) (hN : N ≤ 1000) (hN0 : 0 < N) {ns : List Int} (C : Int) (hC : 0 ≤ C)
    (hturn : ∀ (pl : List Int) (i v : Int) (r os : List O) (u : D), os.length = m → 0 ≤ i → i ≤ C * N → V (ex (tb.cl (run tb wf (n + 1))) tb.fl wf B ⟨.d (.scr ns) :: .d (.ref 0) :: .d u :: os, pen pl i v :: r⟩) (Left ns pl m i C u) ⟨⟩)
    (hfirst : ∀ (pl : List Int) (os : List O) (u : D), os.length = m → V (ex (tb.cl (run tb wf (n + 1))) tb.fl wf B ⟨.d (.scr ns) :: .d (.ref 0) :: .d u :: os, [pen pl 0 0]⟩) (Left ns pl m 0 C u) ⟨⟩ → V (ex (tb.cl (run tb wf (n + 1))) tb.fl wf B ⟨.d (.scr ns) :: pen pl 0 0 :: .d u :: os, []⟩) (Left ns pl m 0 C u) ⟨⟩)
    (hrest : ∀ (pl : List Int) (i v : Int) (r os : List O) (o2 : O), os.length = m → 0 ≤ i → i ≤ C * N → V (ex (tb.cl (run tb wf (n + 1))) tb.fl wf R ⟨.d (.scr ns) :: .d (.ref 0) :: o2 :: os, pen pl i v :: r⟩) (Fin fun o _ => o = .d (.bl true)) ⟨⟩) :
    ∃ h, run tb wf (n + 2) f [.d (.scr ns)] [] = .ok (.d (.bl true)) h := by
  refine Wc_ex ?_
  have goal : Vc (run tb wf (n + 2) f [.d (.scr ns)] []) (fun o _ => o = .d (.bl true)) ⟨⟩ := by
    refine vc_run hf rfl ?_
    have el : [O.d (.scr ns)] ++ List.replicate (m + 3 - 1) .hole = .d (.scr ns) :: .hole :: .hole :: List.replicate m .hole := by
      rw [show m + 3 - 1 = m + 1 + 1 from rfl, List.replicate_succ, List.replicate_succ]
      rfl
    show V (ex _ _ _ (bLawR p N B R) ⟨[O.d (.scr ns)] ++ List.replicate (m + 3 - 1) .hole, []⟩) _ _
    rw [el]
    unfold bLawR
    generalize hos : List.replicate m O.hole = os0
    have hl0 : os0.length = m := by rw [← hos, List.length_replicate]
    sizeOf_list_dec
    refine thePen_ok hp ?_
    generalize cutL ns none (some 60) = pl
    sizeOf_list_dec
    refine ⟨by simp [rngOk]; omega, ?_⟩
    refine v_forR (fun j s => ∃ (i v : Int) (r os : List O) (o1 o2 : O), os.length = m ∧ 0 ≤ i ∧ i ≤ C * j ∧ ((j = 0 ∧ s = ⟨.d (.scr ns) :: pen pl 0 0 :: o2 :: os, []⟩) ∨ s = ⟨.d (.scr ns) :: .d (.ref 0) :: o2 :: os, pen pl i v :: r⟩)) ?_ ?_ ?_
    · exact ⟨0, 0, [], os0, .hole, .hole, hl0, by omega, by simp, .inl ⟨rfl, rfl⟩⟩
    · rintro j s hj ⟨i, v, r, os, o1, o2, hl, h2, h3, hs⟩
      have e1 : C * ((j + 1 : Nat) : Int) = C * j + C := by rw [Int.natCast_add, Int.mul_add]; simp
      have e2 : C * (j : Int) ≤ C * (N : Int) := Int.mul_le_mul_of_nonneg_left (by omega) hC
      rcases hs with ⟨rfl, rfl⟩ | rfl
      · have q := hfirst pl os (.int (0 : Nat)) hl (hturn pl 0 0 [] os (.int (0 : Nat)) hl (by omega) (by omega))
        sizeOf_list_dec
        refine q.mono ?_
        rintro w s ⟨rfl, i', v', r', os', hl', h6, h7, rfl⟩
        refine ⟨i', v', r', os', .hole, _, hl', h6, by omega, .inr rfl⟩
      · have q := hturn pl i v r os (.int (j : Nat)) hl h2 (by omega)
        sizeOf_list_dec
        refine q.mono ?_
        rintro w s ⟨rfl, i', v', r', os', hl', h6, h7, rfl⟩
        refine ⟨i', v', r', os', .hole, _, hl', by omega, by omega, .inr rfl⟩
    · rintro s ⟨i, v, r, os, o1, o2, hl, h2, h3, ⟨hj, rfl⟩ | rfl⟩
      · omega
      · sizeOf_list_dec
        exact hrest pl i v r os o2 hl h2 h3
  rw [Vc_eq] at goal
  exact goal
end
section
set_option maxHeartbeats 400000
/-! Lw: machines written -/
open PySem
variable {tb : Tab} {wf n : Nat} {G : O → List O → Prop} {h : List O}
def itW : It → Str | .s c => ltr c | .k d => Str.ofString (toString (d : Int))
def rW (row : List It) : Str := Str.ofString "=" ++ Str.join (Str.ofString "") (row.map itW)
def mvW (m : Mv) : List Str := (ltr m.1 ++ Str.ofString ">" ++ Str.ofString (toString (m.2.1 : Int))) :: m.2.2.map rW
def endW : Option (List It) → Str | none => Str.ofString "none" | some row => Str.ofString "end" ++ rW row
def stW (st : Stt) : List Str := Str.ofString "state" :: (st.1.flatMap mvW ++ [endW st.2])
def shW (k : Nat) (sts : List Stt) : List Str := Str.ofString (toString (k : Int)) :: sts.flatMap stW
def wrT (k : Nat) (sts : List Stt) : Str := Str.join (Str.ofString " ") (shW k sts)
/-! bounds -/
def ItB : It → Prop | .s c => isL c | .k d => d < 1000000
def RowB (row : List It) : Prop := row.length ≤ 33 ∧ ∀ it ∈ row, ItB it
def MvB (m : Mv) : Prop := isL m.1 ∧ m.2.1 < 1000000 ∧ m.2.2.length ≤ 10 ∧ ∀ row ∈ m.2.2, RowB row
def StB (st : Stt) : Prop := st.1.length ≤ 4 ∧ (∀ m ∈ st.1, MvB m) ∧ ∀ row, st.2 = some row → RowB row
def SB (sts : List Stt) : Prop := ∀ st ∈ sts, StB st
def WB (m : Nat) (z : Str) : Prop := z.length ≤ m ∧ ∀ c ∈ z.cps.toList, c < 1114112
theorem WB.mono {a b : Nat} {z : Str} (h : WB a z) (hab : a ≤ b) : WB b z := ⟨Nat.le_trans h.1 hab, h.2⟩
theorem app_len (x y : Str) : (x ++ y).length = x.length + y.length := by
  show (x.cps ++ y.cps).size = _
  rw [Array.size_append]; rfl
theorem wb_app {a b : Nat} {x y : Str} (hx : WB a x) (hy : WB b y) : WB (a + b) (x ++ y) := by
  refine ⟨by rw [app_len]; have := hx.1; have := hy.1; omega, fun c hc => ?_⟩
  have hc : c ∈ (x.cps ++ y.cps).toList := hc
  rw [Array.toList_append] at hc
  rcases List.mem_append.mp hc with hc | hc
  · exact hx.2 c hc
  · exact hy.2 c hc
theorem wb_of {m : Nat} {s : String} (h : s.length ≤ m) : WB m (Str.ofString s) := by
  refine ⟨by rw [ofString_length]; exact h, fun c hc => ?_⟩
  rw [Str.ofString_eq_toList] at hc
  obtain ⟨d, _, rfl⟩ := List.mem_map.mp (by simpa using hc)
  have := d.valid
  unfold UInt32.isValidChar Nat.isValidChar at this
  show d.val.toNat < 1114112
  omega
theorem wb_int {d : Nat} (h : d < 1000000) : WB 7 (Str.ofString (toString (d : Int))) := wb_of (int_text_length_le10 (k := 6) (by decide) (by omega))
theorem wb_ltr {c : Nat} (h : isL c) : WB 1 (ltr c) := ⟨Nat.le_refl _, fun d hd => by
  have : d = c := by simpa [ltr] using hd
  unfold isL at h
  omega⟩
theorem wb_it {it : It} (h : ItB it) : WB 7 (itW it) := by
  cases it with
  | s c => exact (wb_ltr h).mono (by omega)
  | k d => exact wb_int h
theorem wb_join {m k : Nat} {x : Str} (hx : WB k x) : ∀ {ys : List Str}, (∀ y ∈ ys, WB m y) → WB (ys.length * (m + k)) (Str.join x ys)
  | [], _ => ⟨Nat.zero_le _, fun c hc => by simp [Str.join, Str.empty] at hc⟩
  | [y], h => by rw [Str.join]; exact (h y (List.mem_cons_self ..)).mono (by simp)
  | y :: z :: r, h => by
    rw [Str.join]
    · refine (wb_app (wb_app (h y (List.mem_cons_self ..)) hx) (wb_join hx (ys := z :: r) fun u hu => h u (List.mem_cons_of_mem _ hu))).mono ?_
      simp only [List.length_cons, Nat.add_mul, Nat.one_mul]
      omega
    · simp
theorem sum_WB {m : Nat} : ∀ {ys : List Str}, (∀ y ∈ ys, WB m y) → (ys.map (·.length)).sum ≤ ys.length * m
  | [], _ => by simp
  | y :: r, h => by
    have h1 := (h y (List.mem_cons_self ..)).1
    have h2 := sum_WB (ys := r) fun u hu => h u (List.mem_cons_of_mem _ hu)
    simp only [List.map_cons, List.sum_cons, List.length_cons, Nat.add_mul, Nat.one_mul]
    omega
theorem wb_row {row : List It} (h : RowB row) : WB 240 (rW row) := by
  have hj := wb_join (x := Str.ofString "") (k := 0) ⟨by decide +kernel, by decide +kernel⟩ (ys := row.map itW) (m := 7) fun y hy => by
    obtain ⟨it, hit, rfl⟩ := List.mem_map.mp hy
    exact wb_it (h.2 it hit)
  rw [List.length_map] at hj
  have := h.1
  exact (wb_app (a := 1) ⟨by decide +kernel, by decide +kernel⟩ hj).mono (by omega)
theorem flat_le2 {α β : Type} {f : α → List β} {m : Nat} : ∀ {l : List α}, (∀ x ∈ l, (f x).length ≤ m) → (l.flatMap f).length ≤ l.length * m
  | [], _ => by simp
  | x :: l, h => by
    have h1 := h x (List.mem_cons_self ..)
    have h2 := flat_le2 (l := l) fun y hy => h y (List.mem_cons_of_mem _ hy)
    rw [List.flatMap_cons, List.length_append, List.length_cons, Nat.add_mul]
    omega
theorem mv_words {m : Mv} (h : MvB m) : (mvW m).length ≤ 11 ∧ ∀ y ∈ mvW m, WB 244 y := by
  obtain ⟨h1, h2, h3, h4⟩ := h
  refine ⟨by unfold mvW; rw [List.length_cons, List.length_map]; omega, fun y hy => ?_⟩
  unfold mvW at hy
  rcases List.mem_cons.mp hy with rfl | hy
  · exact (wb_app (wb_app (wb_ltr h1) (b := 1) ⟨by decide +kernel, by decide +kernel⟩) (wb_int h2)).mono (by omega)
  · obtain ⟨row, hr, rfl⟩ := List.mem_map.mp hy
    exact (wb_row (h4 row hr)).mono (by omega)
theorem end_word {e : Option (List It)} (h : ∀ row, e = some row → RowB row) : WB 244 (endW e) := by
  cases e with
  | none => exact WB.mono (a := 4) ⟨by decide +kernel, by decide +kernel⟩ (by omega)
  | some row => exact (wb_app (a := 3) ⟨by decide +kernel, by decide +kernel⟩ (wb_row (h row rfl))).mono (by omega)
theorem st_words {st : Stt} (h : StB st) : (stW st).length ≤ 46 ∧ ∀ y ∈ stW st, WB 244 y := by
  obtain ⟨h1, h2, h3⟩ := h
  have hl := flat_le2 (f := mvW) (m := 11) (l := st.1) fun m hm => (mv_words (h2 m hm)).1
  refine ⟨by unfold stW; rw [List.length_cons, List.length_append, List.length_singleton]; omega, fun y hy => ?_⟩
  unfold stW at hy
  rcases List.mem_cons.mp hy with rfl | hy
  · exact WB.mono (a := 5) ⟨by decide +kernel, by decide +kernel⟩ (by omega)
  · rcases List.mem_append.mp hy with hy | hy
    · obtain ⟨m, hm, hy⟩ := List.mem_flatMap.mp hy
      exact (mv_words (h2 m hm)).2 y hy
    · rw [List.mem_singleton.mp hy]
      exact end_word h3
theorem sh_words {k : Nat} {sts : List Stt} (hk : k < 1000000) (h : SB sts) : (shW k sts).length ≤ 46 * sts.length + 1 ∧ ∀ y ∈ shW k sts, WB 244 y := by
  have hl := flat_le2 (f := stW) (m := 46) (l := sts) fun st hst => (st_words (h st hst)).1
  refine ⟨by unfold shW; rw [List.length_cons]; omega, fun y hy => ?_⟩
  unfold shW at hy
  rcases List.mem_cons.mp hy with rfl | hy
  · exact (wb_int hk).mono (by omega)
  · obtain ⟨st, hst, hy⟩ := List.mem_flatMap.mp hy
    exact (st_words (h st hst)).2 y hy
theorem wb_wr {k : Nat} {sts : List Stt} (hk : k < 1000000) (h : SB sts) : WB ((46 * sts.length + 1) * 245) (wrT k sts) := by
  obtain ⟨h1, h2⟩ := sh_words hk h
  refine (wb_join (x := Str.ofString " ") (k := 1) ⟨by decide +kernel, by decide +kernel⟩ h2).mono ?_
  exact Nat.mul_le_mul_right _ h1
theorem strsOf_str : ∀ {ys : List Str}, strsOf (ys.map D.str) = some ys
  | [] => rfl
  | y :: r => by simp [strsOf, strsOf_str (ys := r)]
theorem x_joinS {ys : List Str} {x : Str} {K : O → Prop} {t : Tag K} : X (mJoin (.d (.str x)) [.lst (ys.map D.str)]) K t = ((ys.map (·.length)).sum + ys.length * x.length ≤ 16777216 ∧ K (.d (.str (Str.join x ys)))) := by
  by_cases hq : (ys.map (·.length)).sum + ys.length * x.length ≤ 16777216 <;> simp [X, mJoin, sv, lv, strsOf_str, hq]
theorem x_striI {i : Int} {K : O → Prop} {t : Tag K} : X (bltop .stri [.d (.int i)]) K t = (i.natAbs.log2 < 1920 ∧ K (.d (.str (Str.ofString (toString i))))) := by
  by_cases h : i.natAbs.log2 < 1920 <;> simp [X, bltop, bStri, h] <;> rfl
theorem log_ok {d : Nat} (h : d < 1000000000000) : (d : Int).natAbs.log2 < 1920 := by
  have := log_small (n := d) h
  rw [Int.natAbs_natCast]
  omega
/-! the code -/
def bRowW : S := (.sq (.ret (.bin .add (.con (.str "=")) (.mth .join (.con (.str "")) (.cons (.comp (.blt .stri (.cons (.var 1) .nil)) (.var 1) (.seq (.var 0)) (.con (.bl true)) [1]) .nil)))) .nil)
def dRowW : Df := ⟨1, 2, [false], bRowW⟩
theorem rowW_ok {f : Nat} (hf : tb.defs[f]? = some dRowW) {row : List It} (hr : RowB row) (k : G (.d (.str (rW row))) h) : Vc (run tb wf (n + 1) f [.d (rowD row)] h) G ⟨⟩ := by
  refine vc_run hf rfl ?_
  show V (ex _ _ _ bRowW ⟨[.d (rowD row), .hole], h⟩) _ _
  unfold bRowW rowD
  obtain ⟨h1, h2⟩ := hr
  have hs := sum_WB (ys := row.map itW) (m := 7) fun y hy => by
    obtain ⟨it, hit, rfl⟩ := List.mem_map.mp hy
    exact wb_it (h2 it hit)
  have hw := wb_row ⟨h1, h2⟩
  rw [List.length_map] at hs
  sizeOf_list_dec
  refine v_cmpM itD (fun it => .str (itW it)) (fun s => ∃ o, s = ⟨[.d (.tup (row.map itD)), o], h⟩) ⟨_, rfl⟩ ?_ (by unfold sizeLine; omega) ?_
  · rintro it hit s ⟨o, rfl⟩
    have hb := h2 it hit
    cases it with
    | s c =>
      simp only [itD, sgD]
      sizeOf_list_dec
      exact ⟨rfl, _, rfl⟩
    | k d =>
      simp only [itD]
      sizeOf_list_dec
      rw [x_striI]
      sizeOf_list_dec
      have hb : d < 1000000 := hb
      exact ⟨log_ok (by omega), rfl, _, rfl⟩
  · rintro s ⟨o, rfl⟩
    rw [show (row.map fun it => D.str (itW it)) = (row.map itW).map D.str from by rw [List.map_map]; rfl]
    sizeOf_list_dec
    rw [x_joinS]
    sizeOf_list_dec
    have hq := hw.1
    unfold rW at hq
    rw [app_len] at hq
    rw [show (Str.ofString "").length = 0 from by decide +kernel]
    exact ⟨by omega, by omega, k⟩
def bStW (r : Nat) : S := (.sq (.asg (.var 2) (.lst (.cons (.con (.str "state")) .nil))) (.sq (.for (.tup (.cons (.var 3) (.cons (.var 4) (.cons (.var 5) .nil)))) (.seq (.var 0)) (.sq (.expr (.app (.var 2) (.fst (.var 3) ">" (.var 4)))) (.sq (.expr (.mth .extend (.var 2) (.cons (.comp (.call r (.cons (.var 6) .nil)) (.var 6) (.seq (.var 5)) (.con (.bl true)) [6]) .nil))) .nil))) (.sq (.expr (.app (.var 2) (.ite (.cmp .isN (.var 1) (.con .non)) (.con (.str "none")) (.bin .add (.con (.str "end")) (.call r (.cons (.var 1) .nil)))))) (.sq (.ret (.var 2)) .nil))))
def dStW (r : Nat) : Df := ⟨2, 7, [false, false], bStW r⟩
theorem fm_take {α β : Type} {f : α → List β} {xs : List α} {j : Nat} (hj : j < xs.length) : (xs.take (j + 1)).flatMap f = (xs.take j).flatMap f ++ f xs[j] := by
  rw [List.take_add_one, List.getElem?_eq_getElem hj, List.flatMap_append]
  simp
theorem fm_take_le {α β : Type} {f : α → List β} {xs : List α} {j : Nat} : ((xs.take j).flatMap f).length ≤ (xs.flatMap f).length := by
  have : xs.flatMap f = (xs.take j).flatMap f ++ (xs.drop j).flatMap f := by rw [← List.flatMap_append, List.take_append_drop]
  rw [this, List.length_append]
  omega
theorem stW_ok {r f : Nat} (hr : tb.defs[r]? = some dRowW) (hf : tb.defs[f]? = some (dStW r)) {st : Stt} (hs : StB st) (k : G (.lst ((stW st).map D.str)) h) : Vc (run tb wf (n + 2) f [.d (.tup (st.1.map mvD)), .d (endD st.2)] h) G ⟨⟩ := by
  refine vc_run hf rfl ?_
  obtain ⟨ms, e⟩ := st
  show V (ex _ _ _ (bStW r) ⟨[.d (.tup (ms.map mvD)), .d (endD e), .hole, .hole, .hole, .hole, .hole], h⟩) _ _
  obtain ⟨h1, h2, h3⟩ := hs
  dsimp only at h1 h2 h3
  have hfl := flat_le2 (f := mvW) (m := 11) (l := ms) fun m hm => (mv_words (h2 m hm)).1
  unfold bStW
  sizeOf_list_dec
  refine v_for (fun j s => ∃ o3 o4 o5 o6, s = ⟨[.d (.tup (ms.map mvD)), .d (endD e), .lst ((Str.ofString "state" :: (ms.take j).flatMap mvW).map D.str), o3, o4, o5, o6], h⟩) ⟨_, _, _, _, rfl⟩ ?_ ?_
  · rintro j s hj ⟨o3, o4, o5, o6, rfl⟩
    rw [List.length_map] at hj
    rw [List.getElem_map, fm_take hj]
    have hle := Nat.le_trans (fm_take_le (f := mvW) (xs := ms) (j := j + 1)) hfl
    rw [fm_take hj, List.length_append] at hle
    have hb := h2 _ (List.getElem_mem hj)
    generalize ms[j] = mv at hb hle
    generalize (ms.take j).flatMap mvW = acc at hle
    obtain ⟨c, g, rows⟩ := mv
    obtain ⟨b1, b2, b3, b4⟩ := hb
    dsimp only at b1 b2 b3 b4
    have hw := (wb_app (wb_app (wb_ltr b1) (b := 1) (y := Str.ofString ">") ⟨by decide +kernel, by decide +kernel⟩) (wb_int b2)).1
    have hw1 := (wb_app (wb_ltr b1) (b := 1) (y := Str.ofString ">") ⟨by decide +kernel, by decide +kernel⟩).1
    have hw0 := (wb_ltr b1).1
    rw [show mvD (c, g, rows) = .tup [.str (ltr c), .int g, .tup (rows.map rowD)] from rfl]
    rw [show (mvW (c, g, rows)) = (ltr c ++ Str.ofString ">" ++ Str.ofString (toString (g : Int))) :: rows.map rW from rfl]
    have hml : (mvW (c, g, rows)).length = 1 + rows.length := by show (List.length (_ :: rows.map rW)) = _; rw [List.length_cons, List.length_map]; omega
    sizeOf_list_dec
    have hsz : (List.map D.str (Str.ofString "state" :: acc)).length < sizeLine := by
      rw [List.length_map, List.length_cons]
      unfold sizeLine
      omega
    refine ⟨by omega, by omega, log_ok (by omega), by omega, hsz, ?_⟩
    refine v_cmpM rowD (fun row => .str (rW row)) (fun s => ∃ o6, s = ⟨[.d (.tup (ms.map mvD)), .d (endD e), .lst ((Str.ofString "state" :: acc).map D.str ++ [.str (ltr c ++ Str.ofString ">" ++ Str.ofString (toString (g : Int)))]), .d (.str (ltr c)), .d (.int g), .d (.tup (rows.map rowD)), o6], h⟩) ⟨_, rfl⟩ ?_ (by unfold sizeLine; omega) ?_
    · rintro row hrow s ⟨o6', rfl⟩
      sizeOf_list_dec
      refine rowW_ok hr (b4 row hrow) ?_
      sizeOf_list_dec
      exact ⟨_, rfl⟩
    · rintro s ⟨o6', rfl⟩
      sizeOf_list_dec
      rw [x_extL]
      sizeOf_list_dec
      have fin : List.map D.str (Str.ofString "state" :: acc) ++ [D.str (ltr c ++ Str.ofString ">" ++ Str.ofString (toString (g : Int)))] ++ List.map (fun row => D.str (rW row)) rows = List.map D.str (Str.ofString "state" :: (acc ++ (ltr c ++ Str.ofString ">" ++ Str.ofString (toString (g : Int))) :: rows.map rW)) := by
        simp only [List.map_cons, List.map_append, List.map_map, List.cons_append, List.append_assoc, List.nil_append]
        rfl
      rw [fin]
      exact ⟨by simp only [List.length_append, List.length_map, List.length_cons, List.length_nil]; omega, _, _, _, _, rfl⟩
  · rintro s ⟨o3, o4, o5, o6, rfl⟩
    rw [List.length_map, List.take_length]
    have hmw := end_word h3
    cases e with
    | none =>
      simp only [endD]
      sizeOf_list_dec
      refine ⟨by rw [List.length_map, List.length_cons]; unfold sizeLine; omega, ?_⟩
      have ek : (stW (ms, none)).map D.str = List.map D.str (Str.ofString "state" :: List.flatMap mvW ms) ++ [D.str (Str.ofString "none")] := by
        unfold stW
        simp only [List.map_cons, List.map_append, List.cons_append, List.map_nil, endW]
      rw [ek] at k
      exact k
    | some row =>
      simp only [endD]
      have hb := h3 row rfl
      have hbl := (wb_row hb).1
      rw [show rowD row = .tup (row.map itD) from rfl]
      sizeOf_list_dec
      rw [show D.tup (row.map itD) = rowD row from rfl]
      refine rowW_ok hr hb ?_
      sizeOf_list_dec
      refine ⟨by rw [show (Str.ofString "end").length = 3 from by decide +kernel]; omega, by rw [List.length_map, List.length_cons]; unfold sizeLine; omega, ?_⟩
      have ek : (stW (ms, some row)).map D.str = List.map D.str (Str.ofString "state" :: List.flatMap mvW ms) ++ [D.str (Str.ofString "end" ++ rW row)] := by
        unfold stW
        simp only [List.map_cons, List.map_append, List.cons_append, List.map_nil, endW]
      rw [ek] at k
      exact k
def bWrit (q : Nat) : S := (.sq (.asg (.tup (.cons (.var 1) (.cons (.var 2) .nil))) (.var 0)) (.sq (.ret (.mth .join (.con (.str " ")) (.cons (.bin .add (.lst (.cons (.blt .stri (.cons (.var 1) .nil)) .nil)) (.comp2 (.var 3) (.tup (.cons (.var 4) (.cons (.var 5) .nil))) (.seq (.var 2)) (.con (.bl true)) (.var 3) (.seq (.call q (.cons (.var 4) (.cons (.var 5) .nil)))) (.con (.bl true)) [4, 5, 3] [3])) .nil))) .nil))
def dWrit (q : Nat) : Df := ⟨1, 6, [false], bWrit q⟩
theorem wr_sum {k : Nat} {sts : List Stt} (hk : k < 1000000) (hS : sts.length ≤ 1001) (h : SB sts) : ((shW k sts).map (·.length)).sum + (shW k sts).length * (Str.ofString " ").length ≤ 16777216 := by
  obtain ⟨h1, h2⟩ := sh_words hk h
  have h3 := sum_WB h2
  rw [show (Str.ofString " ").length = 1 from by decide +kernel]
  omega
theorem writ_ok {r q f : Nat} (hr : tb.defs[r]? = some dRowW) (hq : tb.defs[q]? = some (dStW r)) (hf : tb.defs[f]? = some (dWrit q)) {kk : Nat} {sts : List Stt} (hk : kk < 1000000) (hS : sts.length ≤ 1001) (hs : SB sts) (k : G (.d (.str (wrT kk sts))) h) : Vc (run tb wf (n + 3) f [.d (machD kk sts)] h) G ⟨⟩ := by
  refine vc_run hf rfl ?_
  show V (ex _ _ _ (bWrit q) ⟨[.d (machD kk sts), .hole, .hole, .hole, .hole, .hole], h⟩) _ _
  unfold bWrit
  have hfl := flat_le2 (f := stW) (m := 46) (l := sts) fun st hst => (st_words (hs st hst)).1
  have hsum := wr_sum hk hS hs
  rw [show machD kk sts = .tup [.int kk, .tup (sts.map stD)] from rfl]
  sizeOf_list_dec
  rw [x_striI]
  sizeOf_list_dec
  refine ⟨log_ok (by omega), ?_⟩
  refine v_comp2L (fun j acc s => acc = ((sts.take j).flatMap stW).map D.str ∧ ∃ o3 o4 o5, s = ⟨[.d (.tup [.int kk, .tup (sts.map stD)]), .d (.int kk), .d (.tup (sts.map stD)), o3, o4, o5], h⟩) ⟨rfl, _, _, _, rfl⟩ ?_ ?_
  · rintro j acc s hj ⟨rfl, o3, o4, o5, rfl⟩
    rw [List.length_map] at hj
    rw [List.getElem_map, fm_take hj]
    have hle := Nat.le_trans (fm_take_le (f := stW) (xs := sts) (j := j + 1)) hfl
    rw [fm_take hj, List.length_append] at hle
    have hb := hs _ (List.getElem_mem hj)
    generalize sts[j] = st at hb hle
    generalize (sts.take j).flatMap stW = acc at hle
    rw [show stD st = .tup [.tup (st.1.map mvD), endD st.2] from rfl]
    sizeOf_list_dec
    refine stW_ok hr hq hb ?_
    sizeOf_list_dec
    refine v_compA (fun i a s => a = (acc ++ (stW st).take i).map D.str ∧ ∃ o3, s = ⟨[.d (.tup [.int kk, .tup (sts.map stD)]), .d (.int kk), .d (.tup (sts.map stD)), o3, .d (.tup (st.1.map mvD)), .d (endD st.2)], h⟩) ⟨by simp, _, rfl⟩ ?_ ?_
    · rintro i a s hi ⟨rfl, o3', rfl⟩
      rw [List.length_map] at hi
      rw [List.getElem_map]
      sizeOf_list_dec
      refine ⟨by rw [List.length_map, List.length_append, List.length_take]; unfold sizeLine; omega, ?_, _, rfl⟩
      rw [List.take_add_one, List.getElem?_eq_getElem hi]
      simp only [List.map_append, Option.toList_some, List.map_cons, List.map_nil, List.append_assoc]
    · rintro a s ⟨rfl, o3', rfl⟩
      rw [List.length_map, List.take_length]
      exact ⟨by rw [List.map_append], _, _, _, rfl⟩
  · rintro acc s ⟨rfl, o3, o4, o5, rfl⟩
    rw [List.length_map, List.take_length]
    sizeOf_list_dec
    refine ⟨by rw [List.length_map]; omega, ?_⟩
    rw [show (D.str (Str.ofString (toString (kk : Int)))) :: (sts.flatMap stW).map D.str = (shW kk sts).map D.str from rfl]
    rw [x_joinS]
    sizeOf_list_dec
    exact ⟨hsum, k⟩
def bSheet (r : Nat) : S := (.sq (.asg (.var 1) (.lst (.cons (.blt .stri (.cons (.idx (.var 0) (.con (.int 0))) .nil)) .nil))) (.sq (.for (.tup (.cons (.var 2) (.cons (.var 3) .nil))) (.seq (.idx (.var 0) (.con (.int 1)))) (.sq (.expr (.app (.var 1) (.con (.str "state")))) (.sq (.for (.tup (.cons (.var 4) (.cons (.var 5) (.cons (.var 6) .nil)))) (.seq (.var 2)) (.sq (.expr (.app (.var 1) (.bin .add (.bin .add (.var 4) (.con (.str ">"))) (.blt .stri (.cons (.var 5) .nil))))) (.sq (.expr (.mth .extend (.var 1) (.cons (.comp (.call r (.cons (.var 7) .nil)) (.var 7) (.seq (.var 6)) (.con (.bl true)) [7]) .nil))) .nil))) (.sq (.expr (.app (.var 1) (.ite (.cmp .isN (.var 3) (.con .non)) (.con (.str "none")) (.bin .add (.con (.str "end")) (.call r (.cons (.var 3) .nil)))))) .nil)))) (.sq (.ret (.var 1)) .nil)))
def dSheet (r : Nat) : Df := ⟨1, 8, [false], bSheet r⟩
theorem sheet_ok {r f : Nat} (hr : tb.defs[r]? = some dRowW) (hf : tb.defs[f]? = some (dSheet r)) {kk : Nat} {sts : List Stt} (hk : kk < 1000000) (hS : sts.length ≤ 1001) (hs : SB sts) (k : G (.lst ((shW kk sts).map D.str)) h) : Vc (run tb wf (n + 2) f [.d (machD kk sts)] h) G ⟨⟩ := by
  refine vc_run hf rfl ?_
  show V (ex _ _ _ (bSheet r) ⟨[.d (machD kk sts), .hole, .hole, .hole, .hole, .hole, .hole, .hole], h⟩) _ _
  unfold bSheet
  have hfl := flat_le2 (f := stW) (m := 46) (l := sts) fun st hst => (st_words (hs st hst)).1
  rw [show machD kk sts = .tup [.int kk, .tup (sts.map stD)] from rfl]
  sizeOf_list_dec
  rw [x_striI]
  sizeOf_list_dec
  refine ⟨log_ok (by omega), ?_⟩
  refine v_for (fun j s => ∃ o2 o3 o4 o5 o6 o7, s = ⟨[.d (.tup [.int kk, .tup (sts.map stD)]), .lst ((Str.ofString (toString (kk : Int)) :: (sts.take j).flatMap stW).map D.str), o2, o3, o4, o5, o6, o7], h⟩) ⟨_, _, _, _, _, _, rfl⟩ ?_ ?_
  · rintro j s hj ⟨o2, o3, o4, o5, o6, o7, rfl⟩
    rw [List.length_map] at hj
    rw [List.getElem_map, fm_take hj]
    have hle := Nat.le_trans (fm_take_le (f := stW) (xs := sts) (j := j + 1)) hfl
    rw [fm_take hj, List.length_append] at hle
    have hb := hs _ (List.getElem_mem hj)
    generalize sts[j] = st at hb hle
    generalize (sts.take j).flatMap stW = acc at hle
    have hsl : (stW st).length = (st.1.flatMap mvW).length + 2 := by unfold stW; rw [List.length_cons, List.length_append, List.length_singleton]
    obtain ⟨ms, e⟩ := st
    obtain ⟨h1, h2, h3⟩ := hb
    dsimp only at h1 h2 h3 hsl
    rw [show stD (ms, e) = .tup [.tup (ms.map mvD), endD e] from rfl]
    sizeOf_list_dec
    have hmf := flat_le2 (f := mvW) (m := 11) (l := ms) fun m hm => (mv_words (h2 m hm)).1
    refine ⟨by rw [List.length_map, List.length_cons]; unfold sizeLine; omega, ?_⟩
    rw [show List.map D.str (Str.ofString (toString (kk : Int)) :: acc) ++ [D.str (Str.ofString "state")] = (Str.ofString (toString (kk : Int)) :: acc ++ Str.ofString "state" :: (ms.take 0).flatMap mvW).map D.str from by simp]
    refine v_for (fun i s => ∃ o4 o5 o6 o7, s = ⟨[.d (.tup [.int kk, .tup (sts.map stD)]), .lst ((Str.ofString (toString (kk : Int)) :: acc ++ Str.ofString "state" :: (ms.take i).flatMap mvW).map D.str), .d (.tup (ms.map mvD)), .d (endD e), o4, o5, o6, o7], h⟩) ⟨_, _, _, _, rfl⟩ ?_ ?_
    · rintro i s hi ⟨o4, o5, o6, o7, rfl⟩
      rw [List.length_map] at hi
      rw [List.getElem_map, fm_take hi]
      have hle2 := Nat.le_trans (fm_take_le (f := mvW) (xs := ms) (j := i + 1)) hmf
      rw [fm_take hi, List.length_append] at hle2
      have hb := h2 _ (List.getElem_mem hi)
      generalize ms[i] = mv at hb hle2
      generalize (ms.take i).flatMap mvW = acc2 at hle2
      obtain ⟨c, g, rows⟩ := mv
      obtain ⟨b1, b2, b3, b4⟩ := hb
      dsimp only at b1 b2 b3 b4
      have hw := (wb_app (wb_app (wb_ltr b1) (b := 1) (y := Str.ofString ">") ⟨by decide +kernel, by decide +kernel⟩) (wb_int b2)).1
      have hw1 := (wb_app (wb_ltr b1) (b := 1) (y := Str.ofString ">") ⟨by decide +kernel, by decide +kernel⟩).1
      rw [show mvD (c, g, rows) = .tup [.str (ltr c), .int g, .tup (rows.map rowD)] from rfl]
      have hml : (mvW (c, g, rows)).length = 1 + rows.length := by show (List.length (_ :: rows.map rW)) = _; rw [List.length_cons, List.length_map]; omega
      rw [show (mvW (c, g, rows)) = (ltr c ++ Str.ofString ">" ++ Str.ofString (toString (g : Int))) :: rows.map rW from rfl]
      generalize hall : Str.ofString (toString (kk : Int)) :: acc ++ Str.ofString "state" :: acc2 = full
      have hfu : full.length = 1 + acc.length + 1 + acc2.length := by rw [← hall]; simp only [List.length_append, List.length_cons]; omega
      sizeOf_list_dec
      rw [x_striI]
      sizeOf_list_dec
      rw [app_len] at hw hw1
      rw [app_len] at hw
      rw [app_len]
      refine ⟨by omega, log_ok (by omega), by omega, by rw [List.length_map]; unfold sizeLine; omega, ?_⟩
      refine v_cmpM rowD (fun row => .str (rW row)) (fun s => ∃ o7, s = ⟨[.d (.tup [.int kk, .tup (sts.map stD)]), .lst (full.map D.str ++ [.str (ltr c ++ Str.ofString ">" ++ Str.ofString (toString (g : Int)))]), .d (.tup (ms.map mvD)), .d (endD e), .d (.str (ltr c)), .d (.int g), .d (.tup (rows.map rowD)), o7], h⟩) ⟨_, rfl⟩ ?_ (by unfold sizeLine; omega) ?_
      · rintro row hrow s ⟨o7', rfl⟩
        sizeOf_list_dec
        refine rowW_ok hr (b4 row hrow) ?_
        sizeOf_list_dec
        exact ⟨_, rfl⟩
      · rintro s ⟨o7', rfl⟩
        sizeOf_list_dec
        rw [x_extL]
        sizeOf_list_dec
        have fin : full.map D.str ++ [D.str (ltr c ++ Str.ofString ">" ++ Str.ofString (toString (g : Int)))] ++ List.map (fun row => D.str (rW row)) rows = List.map D.str (Str.ofString (toString (kk : Int)) :: acc ++ Str.ofString "state" :: (acc2 ++ (ltr c ++ Str.ofString ">" ++ Str.ofString (toString (g : Int))) :: rows.map rW)) := by
          rw [← hall]
          simp only [List.map_cons, List.map_append, List.map_map, List.cons_append, List.append_assoc, List.nil_append]
          rfl
        rw [fin]
        exact ⟨by simp only [List.length_append, List.length_map, List.length_cons, List.length_nil]; omega, _, _, _, _, rfl⟩
    · rintro s ⟨o4, o5, o6, o7, rfl⟩
      rw [List.length_map, List.take_length]
      have fin : (Str.ofString (toString (kk : Int)) :: (acc ++ Str.ofString "state" :: ms.flatMap mvW)).map D.str ++ [D.str (endW e)] = (Str.ofString (toString (kk : Int)) :: (acc ++ stW (ms, e))).map D.str := by
        unfold stW
        simp only [List.map_cons, List.map_append, List.cons_append, List.append_assoc, List.map_nil]
      have hsz : ((Str.ofString (toString (kk : Int)) :: (acc ++ Str.ofString "state" :: ms.flatMap mvW)).map D.str).length < sizeLine := by
        simp only [List.length_map, List.length_append, List.length_cons]
        unfold sizeLine
        omega
      cases e with
      | none =>
        simp only [endD, endW] at fin ⊢
        sizeOf_list_dec
        rw [fin]
        exact ⟨hsz, _, _, _, _, _, _, rfl⟩
      | some row =>
        simp only [endD, endW] at fin ⊢
        have hb := h3 row rfl
        have hbl := (wb_row hb).1
        rw [show rowD row = .tup (row.map itD) from rfl]
        sizeOf_list_dec
        rw [show D.tup (row.map itD) = rowD row from rfl]
        refine rowW_ok hr hb ?_
        sizeOf_list_dec
        rw [fin]
        exact ⟨by rw [show (Str.ofString "end").length = 3 from by decide +kernel]; omega, hsz, _, _, _, _, _, _, rfl⟩
  · rintro s ⟨o2, o3, o4, o5, o6, o7, rfl⟩
    rw [List.length_map, List.take_length]
    sizeOf_list_dec
    exact k
def bGreat (d l m : Nat) : S := (.sq (.asg (.var 1) (.call l (.cons (.var 0) (.cons (.bin .add (.con (.int 1)) (.call d (.cons (.var 0) (.cons (.con (.int 4)) .nil)))) .nil)))) (.sq (.asg (.var 2) (.call l (.cons (.var 0) (.cons (.bin .add (.con (.int 1)) (.call d (.cons (.var 0) (.cons (.con (.int 3)) .nil)))) .nil)))) (.sq (.asg (.var 3) (.idx (.lst (.cons (.bin .add (.con (.int 1)) (.call d (.cons (.var 0) (.cons (.con (.int 4)) .nil)))) (.cons (.bin .add (.con (.int 1)) (.call d (.cons (.var 0) (.cons (.con (.int 14)) .nil)))) .nil))) (.call d (.cons (.var 0) (.cons (.con (.int 2)) .nil))))) (.sq (.asg (.var 4) (.call d (.cons (.var 0) (.cons (.idx (.lst (.cons (.con (.int 7)) (.cons (.con (.int 7)) (.cons (.con (.int 11)) .nil)))) (.call d (.cons (.var 0) (.cons (.con (.int 3)) .nil)))) .nil)))) (.sq (.asg (.var 5) (.idx (.call m (.cons (.var 0) (.cons (.var 1) (.cons (.var 2) (.cons (.var 3) (.cons (.var 4) .nil)))))) (.con (.int 1)))) (.sq (.asg (.var 6) (.lst .nil)) (.sq (.for (.tup (.cons (.var 7) (.cons (.var 8) .nil))) (.seq (.var 5)) (.sq (.asg (.var 9) (.blt .lst (.cons (.var 7) .nil))) (.sq (.expr (.app (.var 6) (.tup (.cons (.blt .tup (.cons (.comp (.mth .popAt (.var 9) (.cons (.call d (.cons (.var 0) (.cons (.blt .len (.cons (.var 9) .nil)) .nil))) .nil)) (.var 10) (.rng1 (.blt .len (.cons (.var 7) .nil))) (.con (.bl true)) [10]) .nil)) (.cons (.var 8) .nil))))) .nil))) (.sq (.ret (.tup (.cons (.var 4) (.cons (.blt .tup (.cons (.var 6) .nil)) .nil)))) .nil))))))))
def dGreat (d l m : Nat) : Df := ⟨1, 11, [true], bGreat d l m⟩
theorem x_pick {xs : List Int} {z : Int} {K : D → Prop} (h0 : 0 ≤ z) (h1 : z < (xs.length : Nat)) (k : ∀ s ∈ xs, K (.int s)) : X (L2.atI (xs.map D.int) z) K ⟨⟩ := by
  refine atI_ok h0 (by rw [List.length_map]; omega) ?_
  rw [List.getElem_map]
  exact k _ (List.getElem_mem _)
theorem sb_of {k : Nat} {reads tells : List Nat} {sts : List Stt} (ok : MachAll k reads tells sts) (hnd : reads.Nodup) (hrl : ∀ c ∈ reads, isL c) (htl : ∀ c ∈ tells, isL c) (hk : k ≤ 10) (hr : reads.length ≤ 4) (hS0 : 0 < sts.length) (hS : sts.length ≤ 1000) : SB sts := by
  have mw := mw_of ok hnd hrl htl (by omega) hS0
  have row : ∀ {r : List It}, (drs r).Nodup → (∀ d ∈ drs r, d < k) → (lts r).length ≤ 2 * (k + 1) ∧ (∀ c ∈ lts r, isL c) → RowB r := fun {r} a b c => by
    have := nd_le a fun d hd => List.mem_range.mpr (b d hd)
    rw [List.length_range] at this
    refine ⟨by rw [row_len]; omega, fun it hit => ?_⟩
    cases it with
    | s e => exact c.2 e (List.mem_filterMap.mpr ⟨_, hit, rfl⟩)
    | k d =>
      have := b d (mem_drs hit)
      show d < 1000000
      omega
  intro st hst
  obtain ⟨a, b, c⟩ := mw.st st hst
  have hl := (ok st hst).1.length_le
  rw [List.length_map] at hl
  refine ⟨by omega, fun m hm => ?_, fun r e => ?_⟩
  · obtain ⟨b1, b2, b3, b4, b5, b6⟩ := b m hm
    exact ⟨b1, by omega, by omega, fun r hr => row (nd_flat b4 hr) (fun d hd => b5 d (List.mem_flatMap.mpr ⟨r, hr, hd⟩)) (b6 r hr)⟩
  · obtain ⟨c1, c2, c3⟩ := c r e
    exact row c1 c2 c3
theorem sh_rowB {row : List It} (h : RowB row) : Sh 1386 1 (rowD row) := by
  refine sh_tup (m := 41) (n := 33) (fun x hx => ?_) (by simpa using h.1) (by omega)
  obtain ⟨it, hit, rfl⟩ := List.mem_map.mp hx
  have hb := h.2 it hit
  cases it with
  | s c => exact (sh_ltr hb).mono (by omega) (by omega)
  | k d =>
    have hb : d < 1000000 := hb
    exact (sh_int (by omega)).mono (by omega) (by omega)
theorem sh_SB {kk : Nat} {sts : List Stt} (hk : kk < 1000000) (h : SB sts) (hl : sts.length ≤ 14) : Sh 900000 7 (machD kk sts) := by
  refine (sh_pair (m1 := 41) (m2 := 798742) (d := 6) ((sh_int (by omega)).mono (by omega) (by omega)) ?_).mono (by omega) (by omega)
  refine (sh_tup (m := 57052) (dep := 5) (n := 14) (M := 798742) (fun x hx => ?_) (by simpa using hl) (by omega)).mono (Nat.le_refl _) (by omega)
  obtain ⟨st, hst, rfl⟩ := List.mem_map.mp hx
  obtain ⟨o1, o2, o3⟩ := h st hst
  refine (sh_pair (m1 := 55664) (m2 := 1386) (d := 4) ?_ ?_).mono (by omega) (by omega)
  · refine (sh_tup (m := 13915) (dep := 3) (n := 4) (M := 55664) (fun x hx => ?_) (by rw [List.length_map]; exact o1) (by omega)).mono (by omega) (by omega)
    obtain ⟨mv, hmv, rfl⟩ := List.mem_map.mp hx
    obtain ⟨q1, q2, q3, q4⟩ := o2 mv hmv
    refine (sh_tri (m1 := 1) (m2 := 41) (m3 := 13870) (d := 2) ?_ ?_ ?_).mono (by omega) (by omega)
    · exact (sh_ltr q1).mono (by omega) (by omega)
    · exact (sh_int (by omega)).mono (by omega) (by omega)
    · refine (sh_tup (m := 1386) (dep := 1) (n := 10) (M := 13870) (fun x hx => ?_) (by rw [List.length_map]; exact q3) (by omega)).mono (by omega) (by omega)
      obtain ⟨row, hrow, rfl⟩ := List.mem_map.mp hx
      exact sh_rowB (q4 row hrow)
  · cases he : st.2 with
    | none => exact sh_non.mono (by omega) (by omega)
    | some row => exact (sh_rowB (o3 row he)).mono (by omega) (by omega)
theorem great_ok {w d l x q m f : Nat} (hw : tb.defs[w]? = some dWell) (hd : tb.defs[d]? = some (dDraw w)) (hl : tb.defs[l]? = some (dLetters d)) (hx : MixIs tb x) (hq : tb.defs[q]? = some (dRows d x)) (hm : tb.defs[m]? = some (dMachine d x q)) (hf : tb.defs[f]? = some (dGreat d l m)) {ns : List Int} {i v : Int} {r : List O} (h2 : 0 ≤ i) (h3 : i ≤ 100000000000)
    (k : ∀ (i' v' : Int) (kk : Nat) (sts : List Stt) (r' : List O), i ≤ i' → i' ≤ i + 500000000 → kk ≤ 10 → sts.length ≤ 14 → SB sts → G (.d (machD kk sts)) (pen ns i' v' :: (r ++ r'))) : Vc (run tb wf (n + 6) f [.d (.ref 0)] (pen ns i v :: r)) G ⟨⟩ := by
  refine vc_run hf rfl ?_
  show V (ex _ _ _ (bGreat d l m) ⟨[.d (.ref 0), .hole, .hole, .hole, .hole, .hole, .hole, .hole, .hole, .hole, .hole], pen ns i v :: r⟩) _ _
  unfold bGreat
  sizeOf_list_dec
  refine draw_ok hw hd (by omega) (by omega) h2 (by omega) fun i1 v1 z1 h4 h5 h6 h7 => ?_
  obtain ⟨z1, rfl⟩ := Int.eq_ofNat_of_zero_le h6
  sizeOf_list_dec
  rw [show (1 : Int) + (z1 : Int) = ((1 + z1 : Nat) : Int) from by omega]
  refine letters_ok hw hd hl (by omega) (by omega) (by omega) fun i2 v2 reads h8 h9 h10 h11 h12 => ?_
  sizeOf_list_dec
  refine draw_ok hw hd (by omega) (by omega) (by omega) (by omega) fun i3 v3 z2 h13 h14 h15 h16 => ?_
  obtain ⟨z2, rfl⟩ := Int.eq_ofNat_of_zero_le h15
  sizeOf_list_dec
  rw [show (1 : Int) + (z2 : Int) = ((1 + z2 : Nat) : Int) from by omega]
  refine letters_ok hw hd hl (by omega) (by omega) (by omega) fun i4 v4 tells h17 h18 h19 h20 h21 => ?_
  sizeOf_list_dec
  refine draw_ok hw hd (by omega) (by omega) (by omega) (by omega) fun i5 v5 z3 h22 h23 h24 h25 => ?_
  sizeOf_list_dec
  refine draw_ok hw hd (by omega) (by omega) (by omega) (by omega) fun i6 v6 z4 h26 h27 h28 h29 => ?_
  sizeOf_list_dec
  refine draw_ok hw hd (by omega) (by omega) (by omega) (by omega) fun i7 v7 z5 h30 h31 h32 h33 => ?_
  sizeOf_list_dec
  refine x_pick (xs := [1 + z3, 1 + z4]) h32 (by simpa using h33) fun s hs => ?_
  have hs : 1 ≤ s ∧ s ≤ 14 := by
    simp only [List.mem_cons, List.not_mem_nil, or_false] at hs
    omega
  obtain ⟨S, rfl⟩ := Int.eq_ofNat_of_zero_le (show 0 ≤ s by omega)
  sizeOf_list_dec
  refine draw_ok hw hd (by omega) (by omega) (by omega) (by omega) fun i8 v8 z6 h34 h35 h36 h37 => ?_
  sizeOf_list_dec
  refine x_pick (xs := [7, 7, 11]) h36 (by simpa using h37) fun b hb => ?_
  have hb : 1 ≤ b ∧ b ≤ 11 := by
    simp only [List.mem_cons, List.not_mem_nil, or_false] at hb
    omega
  sizeOf_list_dec
  refine draw_ok hw hd (by omega) (by omega) (by omega) (by omega) fun i9 v9 kk h38 h39 h40 h41 => ?_
  obtain ⟨kk, rfl⟩ := Int.eq_ofNat_of_zero_le h40
  sizeOf_list_dec
  rw [fl_of hm]
  unfold dMachine
  sizeOf_list_dec
  refine machine_okM hw hd hx hq hm (by omega) (by intro e; rw [e] at h19; simp only [List.length_nil] at h19; omega) (by omega) (by omega) (by omega) (by omega) (by omega) (by omega) fun i10 v10 sts r' h42 h43 hmo => ?_
  have hall : MachAll kk reads tells sts := by
    intro st hst
    have := hmo.2 st hst
    rwa [← hmo.1] at this
  have hsb := sb_of hall h12 h11 h20 (by omega) (by omega) (by rw [hmo.1]; omega) (by rw [hmo.1]; omega)
  have hSl : sts.length ≤ 14 := by rw [hmo.1]; omega
  rw [show machD kk sts = .tup [.int kk, .tup (sts.map stD)] from rfl]
  sizeOf_list_dec
  refine v_for (fun j s => ∃ (i' v' : Int) (ss : List Stt) (o7 o8 o9 o10 : O), i10 ≤ i' ∧ i' ≤ i10 + 5 * j ∧ ss.length = j ∧ SB ss ∧ s = ⟨[.d (.ref 0), .d (.lst (reads.map sgD)), .d (.lst (tells.map sgD)), .d (.int S), .d (.int kk), .d (.tup (sts.map stD)), .lst (ss.map stD), o7, o8, o9, o10], pen ns i' v' :: (r ++ r')⟩) ⟨i10, v10, [], _, _, _, _, by omega, by omega, rfl, (fun x hx => nomatch hx), rfl⟩ ?_ ?_
  · rintro j s hj ⟨i', v', ss, o7, o8, o9, o10, hi1, hi2, hss, hsb2, rfl⟩
    rw [List.length_map] at hj
    rw [List.getElem_map]
    obtain ⟨b1, b2, b3⟩ := hsb _ (List.getElem_mem hj)
    generalize sts[j] = st at b1 b2 b3
    obtain ⟨ms, e⟩ := st
    dsimp only at b1 b2 b3
    rw [show stD (ms, e) = .tup [.tup (ms.map mvD), endD e] from rfl]
    sizeOf_list_dec
    refine ⟨by simp [rngOk]; omega, ?_⟩
    refine v_compR (fun t acc s => ∃ (ps rest : List Mv) (i'' v'' : Int) (o10 : O), acc = ps.map mvD ∧ (ps ++ rest).Perm ms ∧ ps.length = t ∧ i' ≤ i'' ∧ i'' ≤ i' + t ∧ s = ⟨[.d (.ref 0), .d (.lst (reads.map sgD)), .d (.lst (tells.map sgD)), .d (.int S), .d (.int kk), .d (.tup (sts.map stD)), .lst (ss.map stD), .d (.tup (ms.map mvD)), .d (endD e), .lst (rest.map mvD), o10], pen ns i'' v'' :: (r ++ r')⟩) ⟨[], ms, i', v', _, rfl, .refl _, rfl, by omega, by omega, rfl⟩ ?_ ?_
    · rintro t acc s ht ⟨ps, rest, i'', v'', o10', rfl, hp, hpl, hi3, hi4, rfl⟩
      have hlen := hp.length_eq
      rw [List.length_append] at hlen
      simp only [List.length_map, Int.toNat_natCast] at ht
      sizeOf_list_dec
      refine draw_ok hw hd (by rw [List.length_map]; omega) (by rw [List.length_map]; omega) (by omega) (by omega) fun i11 v11 z h44 h45 h46 h47 => ?_
      rw [List.length_map] at h47
      sizeOf_list_dec
      refine popAt_map h46 h47 (by omega) ?_
      sizeOf_list_dec
      have hz : z.toNat < rest.length := by omega
      refine ⟨by rw [List.length_map]; unfold sizeLine; omega, ps ++ [rest[z.toNat]], rest.eraseIdx z.toNat, i11, v11, _, by simp, ?_, by simp [hpl], by omega, by omega, rfl⟩
      refine List.Perm.trans ?_ hp
      rw [List.append_assoc]
      exact (eraseIdx_perm hz).append_left ps
    · rintro acc s ⟨ps, rest, i'', v'', o10', rfl, hp, hpl, hi3, hi4, rfl⟩
      have hlen := hp.length_eq
      rw [List.length_append] at hlen
      sizeOf_list_dec
      have hb2 : StB (ps, e) := ⟨by show ps.length ≤ 4; omega, fun m hm => b2 m (hp.mem_iff.mp (List.mem_append_left _ hm)), b3⟩
      rw [show List.map stD ss ++ [D.tup [D.tup (List.map mvD ps), endD e]] = List.map stD (ss ++ [(ps, e)]) from by rw [List.map_append]; rfl]
      refine ⟨by rw [List.length_map]; unfold sizeLine; omega, i'', v'', ss ++ [(ps, e)], _, _, _, _, by omega, by omega, by simp [hss], fun x hx => ?_, rfl⟩
      rcases List.mem_append.mp hx with hx | hx
      · exact hsb2 x hx
      · rw [List.mem_singleton.mp hx]; exact hb2
  · rintro s ⟨i', v', ss, o7, o8, o9, o10, hi1, hi2, hss, hsb2, rfl⟩
    rw [List.length_map] at hi2 hss
    sizeOf_list_dec
    exact k i' v' kk ss r' (by omega) (by omega) (by omega) (by omega) hsb2
def bRingW (d l : Nat) : S := (.sq (.asg (.var 3) (.bin .add (.var 1) (.call d (.cons (.var 0) (.cons (.var 2) .nil))))) (.sq (.asg (.var 4) (.idx (.call l (.cons (.var 0) (.cons (.con (.int 1)) .nil))) (.con (.int 0)))) (.sq (.ret (.tup (.cons (.con (.int 0)) (.cons (.blt .tup (.cons (.comp (.tup (.cons (.tup (.cons (.tup (.cons (.var 4) (.cons (.bin .mod (.bin .add (.var 5) (.con (.int 1))) (.var 3)) (.cons (.tup .nil) .nil)))) .nil)) (.cons (.tup .nil) .nil))) (.var 5) (.rng1 (.var 3)) (.con (.bl true)) [5]) .nil)) .nil)))) .nil)))
def dRingW (d l : Nat) : Df := ⟨3, 6, [true, false, false], bRingW d l⟩
def ringS (c size : Nat) : List Stt := (List.range size).map fun s => ([(c, (s + 1) % size, [])], some [])
theorem ring_len {c size : Nat} : (ringS c size).length = size := by unfold ringS; rw [List.length_map, List.length_range]
theorem mw_ringS {c size : Nat} (hc : isL c) (h0 : 0 < size) : MW 0 0 (ringS c size) := by
  refine ⟨by omega, by omega, by rw [ring_len]; exact h0, fun st hst => ?_⟩
  rw [ring_len]
  obtain ⟨k, _, rfl⟩ := List.mem_map.mp hst
  refine ⟨by simp, fun m hm => ?_, fun row e => ?_⟩
  · rw [List.mem_singleton.mp hm]
    exact ⟨hc, Nat.mod_lt _ h0, rfl, by simp, by simp, by simp⟩
  · cases e
    exact ⟨by simp [drs], by simp [drs], by simp [lts], by simp [lts]⟩
theorem sb_ring {c size : Nat} (hc : isL c) (h0 : 0 < size) (h1 : size ≤ 1001) : SB (ringS c size) := by
  intro st hst
  obtain ⟨k, _, rfl⟩ := List.mem_map.mp hst
  refine ⟨by simp, fun m hm => ?_, fun row e => ?_⟩
  · rw [List.mem_singleton.mp hm]
    have := Nat.mod_lt (k + 1) h0
    exact ⟨hc, by show (k + 1) % size < 1000000; omega, by simp, by simp⟩
  · cases e
    exact ⟨by simp, by simp⟩
theorem fmod_n {a b : Nat} : ((a : Int)).fmod (b : Int) = ((a % b : Nat) : Int) := by
  rw [Int.fmod_eq_emod_of_nonneg _ (by omega)]
  simp
theorem ringW_ok {w d l f : Nat} (hw : tb.defs[w]? = some dWell) (hd : tb.defs[d]? = some (dDraw w)) (hl : tb.defs[l]? = some (dLetters d)) (hf : tb.defs[f]? = some (dRingW d l)) {ns : List Int} {i v : Int} {r : List O} (h2 : 0 ≤ i) (h3 : i ≤ 100000000000)
    (k : ∀ (i' v' : Int) (c size : Nat), isL c → 61 ≤ size → size ≤ 1000 → G (.d (machD 0 (ringS c size))) (pen ns i' v' :: r)) : Vc (run tb wf (n + 4) f [.d (.ref 0), .d (.int 61), .d (.int 940)] (pen ns i v :: r)) G ⟨⟩ := by
  refine vc_run hf rfl ?_
  show V (ex _ _ _ (bRingW d l) ⟨[.d (.ref 0), .d (.int 61), .d (.int 940), .hole, .hole, .hole], pen ns i v :: r⟩) _ _
  unfold bRingW
  sizeOf_list_dec
  refine draw_ok hw hd (by omega) (by omega) h2 (by omega) fun i1 v1 z1 h4 h5 h6 h7 => ?_
  obtain ⟨z1, rfl⟩ := Int.eq_ofNat_of_zero_le h6
  sizeOf_list_dec
  rw [show (61 : Int) + (z1 : Int) = ((61 + z1 : Nat) : Int) from by omega]
  refine letters_ok hw hd hl (tl := 1) (by omega) (by omega) (by omega) fun i2 v2 cs h8 h9 h10 h11 h12 => ?_
  match cs, h10 with
  | [c], _ =>
    have hc := h11 c (List.mem_singleton.mpr rfl)
    generalize hz : 61 + z1 = size
    sizeOf_list_dec
    refine atI_ok (by omega) (by simp) ?_
    rw [show (List.map sgD [c])[(0 : Int).toNat]'(by simp) = D.str (ltr c) from rfl]
    sizeOf_list_dec
    refine ⟨by simp [rngOk]; omega, ?_⟩
    refine v_compR (fun j acc s => acc = (List.range j).map (fun s => stD ([(c, (s + 1) % size, [])], some [])) ∧ ∃ o5, s = ⟨[.d (.ref 0), .d (.int 61), .d (.int 940), .d (.int size), .d (.str (ltr c)), o5], pen ns i2 v2 :: r⟩) ⟨rfl, _, rfl⟩ ?_ ?_
    · rintro j acc s hj ⟨rfl, o5, rfl⟩
      sizeOf_list_dec
      rw [show (j : Int) + 1 = ((j + 1 : Nat) : Int) from by omega, fmod_n]
      refine ⟨by omega, by rw [List.length_map, List.length_range]; unfold sizeLine; omega, ?_, _, rfl⟩
      rw [List.range_succ, List.map_append]
      rfl
    · rintro acc s ⟨rfl, o5, rfl⟩
      sizeOf_list_dec
      have := k i2 v2 c size hc (by omega) (by omega)
      rw [show machD 0 (ringS c size) = D.tup [.int 0, .tup ((List.range size).map (fun s => stD ([(c, (s + 1) % size, [])], some [])))] from by
        unfold ringS
        show D.tup [.int 0, .tup (List.map stD (List.map _ _))] = _
        rw [List.map_map]
        rfl] at this
      exact this
end
namespace K05
open PySem
def b0 : S := (.sq (.ret (.and (.blt .isi (.cons (.var 0) (.cons (.con (.ty "int")) .nil))) (.and (.not (.blt .isi (.cons (.var 0) (.cons (.con (.ty "bool")) .nil)))) (.one (.cmp .ge (.var 0) (.var 1)))))) .nil)
def d0 : Df := ⟨2, 2, [false, false], b0⟩
def b1 : S := (.sq (.ret (.and (.blt .isi (.cons (.var 0) (.cons (.con (.ty "str")) .nil))) (.one (.blt .all (.cons (.comp (.cmp .isin (.var 1) (.con (.str "abcdefghijklmnopqrstuvwxyz"))) (.var 1) (.seq (.var 0)) (.con (.bl true)) [1]) .nil))))) .nil)
def d1 : Df := ⟨1, 2, [false], b1⟩
def b2 : S := (.sq (.ret (.and (.call 1 (.cons (.var 0) .nil)) (.one (.cmp .eq (.blt .len (.cons (.var 0) .nil)) (.con (.int 1)))))) .nil)
def d2 : Df := ⟨1, 1, [false], b2⟩
def b3 : S := (.sq (.ret (.and (.blt .isi (.cons (.var 0) (.cons (.con (.ty "tuple")) .nil))) (.one (.blt .all (.cons (.comp (.or (.call 2 (.cons (.var 1) .nil)) (.one (.callD 0 (.cons (.var 1) .nil) [.inl 0]))) (.var 1) (.seq (.var 0)) (.con (.bl true)) [1]) .nil))))) .nil)
def d3 : Df := ⟨1, 2, [false], b3⟩
def b4 : S := (.sq (.ret (.comp (.var 1) (.var 1) (.seq (.var 0)) (.not (.blt .isi (.cons (.var 1) (.cons (.con (.ty "str")) .nil)))) [1])) .nil)
def d4 : Df := ⟨1, 2, [false], b4⟩
def b5 : S := (.sq (.asg (.var 2) (.comp2 (.var 4) (.var 3) (.seq (.var 0)) (.con (.bl true)) (.var 4) (.seq (.call 4 (.cons (.var 3) .nil))) (.con (.bl true)) [3, 4] [4])) (.sq (.ret (.and (.blt .all (.cons (.comp (.cmp .lt (.var 4) (.var 1)) (.var 4) (.seq (.var 2)) (.con (.bl true)) [4]) .nil)) (.one (.cmp .eq (.slen (.var 2)) (.blt .len (.cons (.var 2) .nil)))))) .nil))
def d5 : Df := ⟨2, 5, [false, false], b5⟩
def b6 : S := (.sq (.ret (.or (.cmp .isN (.var 0) (.con .non)) (.one (.and (.call 3 (.cons (.var 0) .nil)) (.one (.call 5 (.cons (.lst (.cons (.var 0) .nil)) (.cons (.var 1) .nil)))))))) .nil)
def d6 : Df := ⟨2, 2, [false, false], b6⟩
def b7 : S := (.sq (.ite (.or (.not (.blt .isi (.cons (.var 0) (.cons (.con (.ty "tuple")) .nil)))) (.one (.cmp .ne (.blt .len (.cons (.var 0) .nil)) (.con (.int 3))))) (.sq (.ret (.con (.bl false))) .nil) .nil) (.sq (.asg (.tup (.cons (.var 3) (.cons (.var 4) (.cons (.var 5) .nil)))) (.var 0)) (.sq (.ite (.or (.not (.call 2 (.cons (.var 3) .nil))) (.or (.not (.callD 0 (.cons (.var 4) .nil) [.inl 0])) (.one (.cmp .ge (.var 4) (.var 2))))) (.sq (.ret (.con (.bl false))) .nil) .nil) (.sq (.ite (.or (.not (.blt .isi (.cons (.var 5) (.cons (.con (.ty "tuple")) .nil)))) (.or (.cmp .ne (.blt .len (.cons (.var 5) .nil)) (.var 1)) (.one (.not (.blt .all (.cons (.comp (.call 3 (.cons (.var 6) .nil)) (.var 6) (.seq (.var 5)) (.con (.bl true)) [6]) .nil)))))) (.sq (.ret (.con (.bl false))) .nil) .nil) (.sq (.ret (.call 5 (.cons (.var 5) (.cons (.var 1) .nil)))) .nil)))))
def d7 : Df := ⟨3, 7, [false, false, false], b7⟩
def b8 : S := (.sq (.ite (.or (.not (.blt .isi (.cons (.var 0) (.cons (.con (.ty "tuple")) .nil)))) (.or (.cmp .ne (.blt .len (.cons (.var 0) .nil)) (.con (.int 2))) (.one (.not (.blt .isi (.cons (.idx (.var 0) (.con (.int 0))) (.cons (.con (.ty "tuple")) .nil))))))) (.sq (.ret (.con (.bl false))) .nil) .nil) (.sq (.ite (.or (.not (.blt .all (.cons (.comp (.call 7 (.cons (.var 3) (.cons (.var 1) (.cons (.var 2) .nil)))) (.var 3) (.seq (.idx (.var 0) (.con (.int 0)))) (.con (.bl true)) [3]) .nil))) (.one (.not (.call 6 (.cons (.idx (.var 0) (.con (.int 1))) (.cons (.var 1) .nil)))))) (.sq (.ret (.con (.bl false))) .nil) .nil) (.sq (.ret (.cmp .eq (.slenC (.idx (.var 3) (.con (.int 0))) (.var 3) (.seq (.idx (.var 0) (.con (.int 0)))) (.con (.bl true)) [3]) (.blt .len (.cons (.idx (.var 0) (.con (.int 0))) .nil)))) .nil)))
def d8 : Df := ⟨3, 4, [false, false, false], b8⟩
def b9 : S := (.sq (.ite (.or (.not (.blt .isi (.cons (.var 0) (.cons (.con (.ty "tuple")) .nil)))) (.or (.cmp .ne (.blt .len (.cons (.var 0) .nil)) (.con (.int 2))) (.one (.not (.callD 0 (.cons (.idx (.var 0) (.con (.int 0))) .nil) [.inl 0]))))) (.sq (.ret (.con (.bl false))) .nil) .nil) (.sq (.asg (.tup (.cons (.var 1) (.cons (.var 2) .nil))) (.var 0)) (.sq (.ite (.or (.not (.blt .isi (.cons (.var 2) (.cons (.con (.ty "tuple")) .nil)))) (.one (.cmp .eq (.blt .len (.cons (.var 2) .nil)) (.con (.int 0))))) (.sq (.ret (.con (.bl false))) .nil) .nil) (.sq (.ret (.blt .all (.cons (.comp (.call 8 (.cons (.var 3) (.cons (.var 1) (.cons (.blt .len (.cons (.var 2) .nil)) .nil)))) (.var 3) (.seq (.var 2)) (.con (.bl true)) [3]) .nil))) .nil))))
def d9 : Df := ⟨1, 4, [false], b9⟩
def b10 : S := (.sq (.ret (.bin .add (.con (.str "=")) (.mth .join (.con (.str "")) (.cons (.comp (.blt .stri (.cons (.var 1) .nil)) (.var 1) (.seq (.var 0)) (.con (.bl true)) [1]) .nil)))) .nil)
def d10 : Df := ⟨1, 2, [false], b10⟩
def b11 : S := (.sq (.asg (.var 2) (.lst (.cons (.con (.str "state")) .nil))) (.sq (.for (.tup (.cons (.var 3) (.cons (.var 4) (.cons (.var 5) .nil)))) (.seq (.var 0)) (.sq (.expr (.app (.var 2) (.fst (.var 3) ">" (.var 4)))) (.sq (.expr (.mth .extend (.var 2) (.cons (.comp (.call 10 (.cons (.var 6) .nil)) (.var 6) (.seq (.var 5)) (.con (.bl true)) [6]) .nil))) .nil))) (.sq (.expr (.app (.var 2) (.ite (.cmp .isN (.var 1) (.con .non)) (.con (.str "none")) (.bin .add (.con (.str "end")) (.call 10 (.cons (.var 1) .nil)))))) (.sq (.ret (.var 2)) .nil))))
def d11 : Df := ⟨2, 7, [false, false], b11⟩
def b12 : S := (.sq (.asg (.tup (.cons (.var 1) (.cons (.var 2) .nil))) (.var 0)) (.sq (.ret (.mth .join (.con (.str " ")) (.cons (.bin .add (.lst (.cons (.blt .stri (.cons (.var 1) .nil)) .nil)) (.comp2 (.var 3) (.tup (.cons (.var 4) (.cons (.var 5) .nil))) (.seq (.var 2)) (.con (.bl true)) (.var 3) (.seq (.call 11 (.cons (.var 4) (.cons (.var 5) .nil)))) (.con (.bl true)) [4, 5, 3] [3])) .nil))) .nil))
def d12 : Df := ⟨1, 6, [false], b12⟩
def b13 : S := (.sq (.ret (.lst (.cons (.blt .lst (.cons (.sl (.var 0) .nil (.one (.con (.int 60)))) .nil)) (.cons (.con (.int 0)) (.cons (.con (.int 0)) .nil))))) .nil)
def d13 : Df := ⟨1, 1, [false], b13⟩
def b14 : S := (.sq (.asg (.var 1) (.idx (.var 0) (.con (.int 1)))) (.sq (.asg (.idx (.var 0) (.con (.int 1))) (.bin .add (.var 1) (.con (.int 1)))) (.sq (.asg (.var 2) (.bin .add (.bin .mul (.var 1) (.con (.int 977))) (.con (.int 7)))) (.sq (.ite (.cmp .ne (.idx (.var 0) (.con (.int 0))) (.lst .nil)) (.sq (.asg (.var 2) (.idx (.idx (.var 0) (.con (.int 0))) (.bin .mod (.var 1) (.blt .len (.cons (.idx (.var 0) (.con (.int 0))) .nil))))) .nil) .nil) (.sq (.ite (.and (.cmp .lt (.var 1) (.blt .len (.cons (.idx (.var 0) (.con (.int 0))) .nil))) (.one (.cmp .ge (.var 2) (.bin .pow (.con (.int 10)) (.con (.int 18)))))) (.sq (.ret (.var 2)) .nil) .nil) (.sq (.asg (.var 3) (.bin .mod (.bin .add (.bin .add (.bin .mod (.var 2) (.con (.int 2147483549))) (.bin .mul (.var 1) (.con (.int 52391)))) (.con (.int 29))) (.con (.int 2147483549)))) (.sq (.asg (.var 4) (.bin .mod (.bin .add (.bin .add (.bin .mul (.var 3) (.var 3)) (.bin .mul (.var 1) (.con (.int 30011)))) (.con (.int 7))) (.con (.int 2147483543)))) (.sq (.asg (.var 5) (.bin .mod (.bin .add (.bin .add (.bin .mul (.var 4) (.var 4)) (.var 3)) (.bin .mul (.var 1) (.var 1))) (.con (.int 2147483497)))) (.sq (.ret (.bin .add (.bin .mul (.bin .add (.bin .mul (.var 5) (.con (.int 2147483549))) (.var 4)) (.con (.int 2147483543))) (.var 3))) .nil)))))))))
def d14 : Df := ⟨1, 6, [true], b14⟩
def b15 : S := (.sq (.ite (.cmp .lt (.idx (.var 0) (.con (.int 2))) (.var 1)) (.sq (.asg (.idx (.var 0) (.con (.int 2))) (.call 14 (.cons (.var 0) .nil))) .nil) .nil) (.sq (.asg (.var 2) (.bin .mod (.idx (.var 0) (.con (.int 2))) (.var 1))) (.sq (.asg (.idx (.var 0) (.con (.int 2))) (.bin .fdiv (.idx (.var 0) (.con (.int 2))) (.var 1))) (.sq (.ret (.var 2)) .nil))))
def d15 : Df := ⟨2, 3, [true, false], b15⟩
def b16 : S := (.sq (.asg (.var 2) (.blt .lst (.cons (.con (.str "abcdefghijklmnopqrstuvwxyz")) .nil))) (.sq (.ret (.blt .sorted (.cons (.comp (.mth .popAt (.var 2) (.cons (.call 15 (.cons (.var 0) (.cons (.blt .len (.cons (.var 2) .nil)) .nil))) .nil)) (.var 3) (.rng1 (.var 1)) (.con (.bl true)) [3]) .nil))) .nil))
def d16 : Df := ⟨2, 4, [true, false], b16⟩
def b17 : S := (.sq (.asg (.var 3) (.blt .lst (.cons (.var 1) .nil))) (.sq (.asg (.var 4) (.lst .nil)) (.sq (.for (.var 5) (.rng1 (.bin .add (.blt .len (.cons (.var 1) .nil)) (.con (.int 1)))) (.sq (.for (.var 6) (.rng1 (.idx (.lst (.cons (.con (.int 0)) (.cons (.con (.int 0)) (.cons (.con (.int 0)) (.cons (.con (.int 1)) (.cons (.con (.int 1)) (.cons (.con (.int 2)) .nil))))))) (.call 15 (.cons (.var 0) (.cons (.con (.int 6)) .nil))))) (.sq (.expr (.app (.var 4) (.idx (.var 2) (.call 15 (.cons (.var 0) (.cons (.blt .len (.cons (.var 2) .nil)) .nil)))))) .nil)) (.sq (.ite (.cmp .ne (.var 3) (.lst .nil)) (.sq (.expr (.app (.var 4) (.mth .popAt (.var 3) (.cons (.call 15 (.cons (.var 0) (.cons (.blt .len (.cons (.var 3) .nil)) .nil))) .nil)))) .nil) .nil) .nil))) (.sq (.ret (.blt .tup (.cons (.var 4) .nil))) .nil))))
def d17 : Df := ⟨3, 7, [true, false, false], b17⟩
def b18 : S := (.sq (.asg (.var 3) (.comp (.lst .nil) (.var 4) (.rng1 (.var 1)) (.con (.bl true)) [4])) (.sq (.for (.var 4) (.rng1 (.var 1)) (.sq (.asg (.var 5) (.ite (.cmp .eq (.call 15 (.cons (.var 0) (.cons (.con (.int 2)) .nil))) (.con (.int 0))) (.var 4) (.call 15 (.cons (.var 0) (.cons (.bin .add (.var 1) (.con (.int 1))) .nil))))) (.sq (.ite (.cmp .lt (.var 5) (.var 1)) (.sq (.expr (.app (.idx (.var 3) (.var 5)) (.var 4))) .nil) .nil) .nil))) (.sq (.ret (.blt .tup (.cons (.comp (.call 17 (.cons (.var 0) (.cons (.var 6) (.cons (.var 2) .nil)))) (.var 6) (.seq (.var 3)) (.con (.bl true)) [6]) .nil))) .nil)))
def d18 : Df := ⟨3, 7, [true, false, false], b18⟩
def b19 : S := (.sq (.asg (.var 5) (.lst .nil)) (.sq (.for (.var 6) (.rng1 (.var 3)) (.sq (.asg (.var 7) (.lst .nil)) (.sq (.for (.var 8) (.seq (.var 1)) (.sq (.ite (.cmp .gt (.call 15 (.cons (.var 0) (.cons (.con (.int 8)) .nil))) (.con (.int 0))) (.sq (.asg (.var 11) (.call 15 (.cons (.var 0) (.cons (.var 3) .nil)))) (.sq (.expr (.app (.var 7) (.tup (.cons (.var 8) (.cons (.var 11) (.cons (.call 18 (.cons (.var 0) (.cons (.var 4) (.cons (.var 2) .nil)))) .nil)))))) .nil)) .nil) .nil)) (.sq (.asg (.var 9) (.comp (.var 12) (.var 12) (.rng1 (.var 4)) (.cmp .gt (.call 15 (.cons (.var 0) (.cons (.con (.int 4)) .nil))) (.con (.int 0))) [12])) (.sq (.asg (.var 10) (.ite (.cmp .gt (.call 15 (.cons (.var 0) (.cons (.con (.int 8)) .nil))) (.con (.int 0))) (.call 17 (.cons (.var 0) (.cons (.var 9) (.cons (.var 2) .nil)))) (.con .non))) (.sq (.expr (.app (.var 5) (.tup (.cons (.blt .tup (.cons (.var 7) .nil)) (.cons (.var 10) .nil))))) .nil)))))) (.sq (.ret (.tup (.cons (.var 4) (.cons (.blt .tup (.cons (.var 5) .nil)) .nil)))) .nil)))
def d19 : Df := ⟨5, 13, [true, false, false, false, false], b19⟩
def b20 : S := (.sq (.asg (.var 1) (.call 16 (.cons (.var 0) (.cons (.bin .add (.con (.int 1)) (.call 15 (.cons (.var 0) (.cons (.con (.int 4)) .nil)))) .nil)))) (.sq (.asg (.var 2) (.call 16 (.cons (.var 0) (.cons (.bin .add (.con (.int 1)) (.call 15 (.cons (.var 0) (.cons (.con (.int 3)) .nil)))) .nil)))) (.sq (.asg (.var 3) (.idx (.lst (.cons (.bin .add (.con (.int 1)) (.call 15 (.cons (.var 0) (.cons (.con (.int 4)) .nil)))) (.cons (.bin .add (.con (.int 1)) (.call 15 (.cons (.var 0) (.cons (.con (.int 14)) .nil)))) .nil))) (.call 15 (.cons (.var 0) (.cons (.con (.int 2)) .nil))))) (.sq (.asg (.var 4) (.call 15 (.cons (.var 0) (.cons (.idx (.lst (.cons (.con (.int 7)) (.cons (.con (.int 7)) (.cons (.con (.int 11)) .nil)))) (.call 15 (.cons (.var 0) (.cons (.con (.int 3)) .nil)))) .nil)))) (.sq (.asg (.var 5) (.idx (.call 19 (.cons (.var 0) (.cons (.var 1) (.cons (.var 2) (.cons (.var 3) (.cons (.var 4) .nil)))))) (.con (.int 1)))) (.sq (.asg (.var 6) (.lst .nil)) (.sq (.for (.tup (.cons (.var 7) (.cons (.var 8) .nil))) (.seq (.var 5)) (.sq (.asg (.var 9) (.blt .lst (.cons (.var 7) .nil))) (.sq (.expr (.app (.var 6) (.tup (.cons (.blt .tup (.cons (.comp (.mth .popAt (.var 9) (.cons (.call 15 (.cons (.var 0) (.cons (.blt .len (.cons (.var 9) .nil)) .nil))) .nil)) (.var 10) (.rng1 (.blt .len (.cons (.var 7) .nil))) (.con (.bl true)) [10]) .nil)) (.cons (.var 8) .nil))))) .nil))) (.sq (.ret (.tup (.cons (.var 4) (.cons (.blt .tup (.cons (.var 6) .nil)) .nil)))) .nil))))))))
def d20 : Df := ⟨1, 11, [true], b20⟩
def b21 : S := (.sq (.ret (.bin .add (.con (.str "=")) (.mth .join (.con (.str "")) (.cons (.comp (.blt .stri (.cons (.var 1) .nil)) (.var 1) (.seq (.var 0)) (.con (.bl true)) [1]) .nil)))) .nil)
def d21 : Df := ⟨1, 2, [false], b21⟩
def b22 : S := (.sq (.asg (.var 1) (.lst (.cons (.blt .stri (.cons (.idx (.var 0) (.con (.int 0))) .nil)) .nil))) (.sq (.for (.tup (.cons (.var 2) (.cons (.var 3) .nil))) (.seq (.idx (.var 0) (.con (.int 1)))) (.sq (.expr (.app (.var 1) (.con (.str "state")))) (.sq (.for (.tup (.cons (.var 4) (.cons (.var 5) (.cons (.var 6) .nil)))) (.seq (.var 2)) (.sq (.expr (.app (.var 1) (.bin .add (.bin .add (.var 4) (.con (.str ">"))) (.blt .stri (.cons (.var 5) .nil))))) (.sq (.expr (.mth .extend (.var 1) (.cons (.comp (.call 21 (.cons (.var 7) .nil)) (.var 7) (.seq (.var 6)) (.con (.bl true)) [7]) .nil))) .nil))) (.sq (.expr (.app (.var 1) (.ite (.cmp .isN (.var 3) (.con .non)) (.con (.str "none")) (.bin .add (.con (.str "end")) (.call 21 (.cons (.var 3) .nil)))))) .nil)))) (.sq (.ret (.var 1)) .nil)))
def d22 : Df := ⟨1, 8, [false], b22⟩
def b23 : S := (.sq (.asg (.var 3) (.bin .add (.var 1) (.call 15 (.cons (.var 0) (.cons (.var 2) .nil))))) (.sq (.asg (.var 4) (.idx (.call 16 (.cons (.var 0) (.cons (.con (.int 1)) .nil))) (.con (.int 0)))) (.sq (.ret (.tup (.cons (.con (.int 0)) (.cons (.blt .tup (.cons (.comp (.tup (.cons (.tup (.cons (.tup (.cons (.var 4) (.cons (.bin .mod (.bin .add (.var 5) (.con (.int 1))) (.var 3)) (.cons (.tup .nil) .nil)))) .nil)) (.cons (.tup .nil) .nil))) (.var 5) (.rng1 (.var 3)) (.con (.bl true)) [5]) .nil)) .nil)))) .nil)))
def d23 : Df := ⟨3, 6, [true, false, false], b23⟩
def b24 : S := (.sq (.asg (.var 1) (.call 13 (.cons (.var 0) .nil))) (.sq (.for (.var 2) (.rng1 (.con (.int 5))) (.sq (.asg (.var 5) (.call 20 (.cons (.var 1) .nil))) (.sq (.asg (.var 6) (.blt .rep (.cons (.var 5) .nil))) (.sq (.ite (.or (.cmp .ne (.blt .rep (.cons (.call 12 (.cons (.var 5) .nil)) .nil)) (.blt .rep (.cons (.mth .join (.con (.str " ")) (.cons (.call 22 (.cons (.var 5) .nil)) .nil)) .nil))) (.one (.cmp .ne (.blt .rep (.cons (.var 5) .nil)) (.var 6)))) (.sq (.ret (.con (.bl false))) .nil) .nil) .nil)))) (.sq (.asg (.var 3) (.call 23 (.cons (.var 1) (.cons (.con (.int 61)) (.cons (.con (.int 940)) .nil))))) (.sq (.ite (.or (.cmp .notN (.call 9 (.cons (.var 3) .nil)) (.con (.bl true))) (.one (.cmp .ne (.call 12 (.cons (.var 3) .nil)) (.mth .join (.con (.str " ")) (.cons (.call 22 (.cons (.var 3) .nil)) .nil))))) (.sq (.ret (.con (.bl false))) .nil) .nil) (.sq (.asg (.var 4) (.tup (.cons (.tup (.cons (.con (.str "a")) (.cons (.con (.int 0)) (.cons (.tup (.cons (.tup (.cons (.con (.str "a")) (.cons (.con (.int 0)) .nil))) .nil)) .nil)))) (.cons (.tup (.cons (.con (.str "b")) (.cons (.con (.int 0)) (.cons (.tup (.cons (.tup (.cons (.con (.str "b")) (.cons (.con (.int 0)) .nil))) .nil)) .nil)))) .nil)))) (.sq (.ite (.cmp .ne (.call 12 (.cons (.tup (.cons (.con (.int 1)) (.cons (.tup (.cons (.tup (.cons (.var 4) (.cons (.tup (.cons (.con (.int 0)) .nil)) .nil))) .nil)) .nil))) .nil)) (.con (.str "1 state a>0 =a0 b>0 =b0 end=0"))) (.sq (.ret (.con (.bl false))) .nil) .nil) (.sq (.ite (.cmp .ne (.call 12 (.cons (.tup (.cons (.con (.int 10)) (.cons (.tup (.cons (.tup (.cons (.tup .nil) (.cons (.rngt (.con (.int 10))) .nil))) .nil)) .nil))) .nil)) (.con (.str "10 state end=0123456789"))) (.sq (.ret (.con (.bl false))) .nil) .nil) (.sq (.ret (.and (.cmp .eq (.call 12 (.cons (.tup (.cons (.con (.int 0)) (.cons (.tup (.cons (.tup (.cons (.tup .nil) (.cons (.con .non) .nil))) .nil)) .nil))) .nil)) (.con (.str "0 state none"))) (.one (.cmp .eq (.call 12 (.cons (.tup (.cons (.con (.int 2)) (.cons (.tup (.cons (.tup (.cons (.tup .nil) (.cons (.tup .nil) .nil))) .nil)) .nil))) .nil)) (.con (.str "2 state end=")))))) .nil))))))))
def d24 : Df := ⟨1, 7, [false], b24⟩
def tb : Tab := ⟨[d0, d1, d2, d3, d4, d5, d6, d7, d8, d9, d10, d11, d12, d13, d14, d15, d16, d17, d18, d19, d20, d21, d22, d23, d24], [], []⟩
section
variable {T : Tab}
structure Is (T : Tab) : Prop where
  m : IsM T 0 1 2 3 4 5 6 7 8 9
  rw : T.defs[10]? = some dRowW
  st : T.defs[11]? = some (dStW 10)
  wr : T.defs[12]? = some (dWrit 11)
  pn : T.defs[13]? = some dPen
  we : T.defs[14]? = some dWell
  dr : T.defs[15]? = some (dDraw 14)
  le : T.defs[16]? = some (dLetters 15)
  mx : T.defs[17]? = some (dMix 15)
  ro : T.defs[18]? = some (dRows 15 17)
  ma : T.defs[19]? = some (dMachine 15 17 18)
  gr : T.defs[20]? = some (dGreat 15 16 19)
  rs : T.defs[21]? = some dRowW
  sh : T.defs[22]? = some (dSheet 21)
  ri : T.defs[23]? = some (dRingW 15 16)
theorem is_tb : Is tb := ⟨⟨rfl, rfl, rfl, rfl, rfl, rfl, rfl, rfl, rfl, rfl⟩, rfl, rfl, rfl, rfl, rfl, rfl, by show some d16 = _; unfold d16 dLetters b16 bLetters; rfl, rfl, rfl, rfl, rfl, rfl, rfl, rfl⟩
theorem turn_ok (hT : Is T) {wf n : Nat} {ns pl : List Int} {i v : Int} {r : List O} {o3 o4 o5 o6 : O} {u : D} (h2 : 0 ≤ i) (h3 : i ≤ 10000000000) :
    V (ex (T.cl (run T wf (n + 6))) T.fl wf (S.fb (S.hdS b24.tl)) ⟨[.d (.scr ns), .d (.ref 0), .d u, o3, o4, o5, o6], pen pl i v :: r⟩) (Left ns pl 4 i 1000000000 u) ⟨⟩ := by
  simp only [b24, S.fb, S.hdS, S.tl]
  sizeOf_list_dec
  refine great_ok hT.we hT.dr hT.le (mix_is hT.we hT.dr hT.mx) hT.ro hT.ma hT.gr h2 (by omega) fun i1 v1 kk sts r' h4 h5 h6 h7 hsb => ?_
  have shm := sh_SB (kk := kk) (by omega) hsb h7
  have wb := wb_wr (k := kk) (by omega) hsb
  have shs : Sh 200000 0 (.str (wrT kk sts)) := sh_str wb.2 (Nat.le_trans wb.1 (by omega))
  sizeOf_list_dec
  rw [v_h_nr rfl]
  sizeOf_list_dec
  rw [x_rep shm (by omega) (by omega)]
  array_get_dec
  refine writ_ok hT.rw hT.st hT.wr (by omega) (by omega) hsb ?_
  sizeOf_list_dec
  rw [x_rep shs (by omega) (by omega)]
  sizeOf_list_dec
  refine sheet_ok hT.rs hT.sh (by omega) (by omega) hsb ?_
  sizeOf_list_dec
  rw [x_joinS]
  refine ⟨wr_sum (by omega) (by omega) hsb, ?_⟩
  rw [show (Str.ofString " ").join (shW kk sts) = wrT kk sts from rfl]
  sizeOf_list_dec
  rw [x_rep shs (by omega) (by omega)]
  array_get_dec
  rw [v_h_nr rfl]
  sizeOf_list_dec
  rw [x_rep shm (by omega) (by omega)]
  sizeOf_list_dec
  exact ⟨rfl, i1, v1, r ++ r', _, rfl, by omega, by omega, rfl⟩
def zmA : Mv := (97, 0, [[.s 97, .k 0]])
def zmB : Mv := (98, 0, [[.s 98, .k 0]])
def zm1 : List Stt := [([zmA, zmB], some [.k 0])]
def zm2 : List Stt := [([], some ((List.range 10).map .k))]
def zm3 : List Stt := [([], none)]
def zm4 : List Stt := [([], some [])]
theorem zs1 : SB zm1 := by
  intro st hst
  rw [List.mem_singleton.mp hst]
  have hr : ∀ c : Nat, isL c → RowB [.s c, .k 0] := fun c hc => ⟨by simp, fun it hit => by
    rcases List.mem_cons.mp hit with rfl | hit
    · exact hc
    · rw [List.mem_singleton.mp hit]; show (0 : Nat) < 1000000; omega⟩
  refine ⟨by decide, fun m hm => ?_, fun row e => ?_⟩
  · rcases List.mem_cons.mp hm with rfl | hm
    · exact ⟨by unfold isL zmA; omega, by decide, by decide, fun row hr2 => by rw [List.mem_singleton.mp hr2]; exact hr 97 (by unfold isL; omega)⟩
    · rw [List.mem_singleton.mp hm]
      exact ⟨by unfold isL zmB; omega, by decide, by decide, fun row hr2 => by rw [List.mem_singleton.mp hr2]; exact hr 98 (by unfold isL; omega)⟩
  · cases e
    exact ⟨by decide, fun it hit => by rw [List.mem_singleton.mp hit]; show (0 : Nat) < 1000000; omega⟩
theorem zs2 : SB zm2 := by
  intro st hst
  rw [List.mem_singleton.mp hst]
  refine ⟨by decide, (fun m hm => nomatch hm), fun row e => ?_⟩
  cases e
  refine ⟨by decide, fun it hit => ?_⟩
  obtain ⟨d, hd, rfl⟩ := List.mem_map.mp hit
  have := List.mem_range.mp hd
  show d < 1000000
  omega
theorem zs3 : SB zm3 := by
  intro st hst
  rw [List.mem_singleton.mp hst]
  exact ⟨by decide, (fun m hm => nomatch hm), fun row e => nomatch e⟩
theorem zs4 : SB zm4 := by
  intro st hst
  rw [List.mem_singleton.mp hst]
  exact ⟨by decide, (fun m hm => nomatch hm), fun row e => by cases e; exact ⟨by decide, fun it hit => nomatch hit⟩⟩
theorem zt1 : wrT 1 zm1 = Str.ofString "1 state a>0 =a0 b>0 =b0 end=0" := by decide +kernel
theorem zt2 : wrT 10 zm2 = Str.ofString "10 state end=0123456789" := by decide +kernel
theorem zt3 : wrT 0 zm3 = Str.ofString "0 state none" := by decide +kernel
theorem zt4 : wrT 2 zm4 = Str.ofString "2 state end=" := by decide +kernel
theorem rest_ok (hT : Is T) {wf n : Nat} {ns pl : List Int} {i v : Int} {r : List O} {o2 o3 o4 o5 o6 : O} (h2 : 0 ≤ i) (h3 : i ≤ 10000000000) :
    V (ex (T.cl (run T wf (n + 6))) T.fl wf b24.tl.tl ⟨[.d (.scr ns), .d (.ref 0), o2, o3, o4, o5, o6], pen pl i v :: r⟩) (Fin fun o _ => o = .d (.bl true)) ⟨⟩ := by
  simp only [b24, S.tl]
  sizeOf_list_dec
  refine ringW_ok hT.we hT.dr hT.le hT.ri h2 (by omega) fun i1 v1 c size hc h4 h5 => ?_
  have hmw := mw_ringS hc (show 0 < size by omega)
  have hsb := sb_ring hc (show 0 < size by omega) (by omega)
  array_get_dec
  refine macI_ok hT.m hmw (by rw [ring_len]; omega) ?_
  array_get_dec
  refine writ_ok hT.rw hT.st hT.wr (by omega) (by rw [ring_len]; omega) hsb ?_
  sizeOf_list_dec
  refine sheet_ok hT.rs hT.sh (by omega) (by rw [ring_len]; omega) hsb ?_
  sizeOf_list_dec
  rw [x_joinS]
  refine ⟨wr_sum (by omega) (by rw [ring_len]; omega) hsb, ?_⟩
  rw [show (Str.ofString " ").join (shW 0 (ringS c size)) = wrT 0 (ringS c size) from rfl]
  sizeOf_list_dec
  have ea : Str.ofString "a" = ltr 97 := by decide +kernel
  have eb : Str.ofString "b" = ltr 98 := by decide +kernel
  rw [ea, eb]
  array_get_dec
  refine Eq.mp (congrArg (fun x => Vc (run T wf (n + 6) 12 [O.d x] _) _ ⟨⟩) (show machD 1 zm1 = _ from rfl)) ?_
  refine writ_ok hT.rw hT.st hT.wr (by omega) (by decide) zs1 ?_
  rw [zt1]
  array_get_dec
  refine Eq.mp (congrArg (fun x => Vc (run T wf (n + 6) 12 [O.d x] _) _ ⟨⟩) (show machD 10 zm2 = D.tup [D.int 10, D.tup [D.tup [D.tup [], D.tup (rngD 0 10)]]] from rfl)) ?_
  refine writ_ok hT.rw hT.st hT.wr (by omega) (by decide) zs2 ?_
  rw [zt2]
  array_get_dec
  refine Eq.mp (congrArg (fun x => Vc (run T wf (n + 6) 12 [O.d x] _) _ ⟨⟩) (show machD 0 zm3 = _ from rfl)) ?_
  refine writ_ok hT.rw hT.st hT.wr (by omega) (by decide) zs3 ?_
  rw [zt3]
  array_get_dec
  refine Eq.mp (congrArg (fun x => Vc (run T wf (n + 6) 12 [O.d x] _) _ ⟨⟩) (show machD 2 zm4 = _ from rfl)) ?_
  refine writ_ok hT.rw hT.st hT.wr (by omega) (by decide) zs4 ?_
  rw [zt4]
  array_get_dec
end
def wfl : Nat := 1
def dpt : Nat := 20
theorem yes : ∀ ns : List Int, ns.length ≤ 63 → ∃ h, run tb wfl dpt 24 [.d (.scr ns)] [] = .ok (.d (.bl true)) h := by
  intro ns _
  have hT := is_tb
  refine law_okR (n := 18) (wf := 1) (p := 13) (m := 4) (N := 5) (B := S.fb (S.hdS b24.tl)) (R := b24.tl.tl) hT.pn rfl (by omega) (by omega) 1000000000 (by omega) ?_ ?_ ?_
  · intro pl i v r os u hl h2 h3
    match os, hl with
    | [o3, o4, o5, o6], _ => exact turn_ok (n := 13) hT h2 (by omega)
  · intro pl os u hl q
    match os, hl with
    | [o3, o4, o5, o6], _ =>
      have hfl : tb.fl 20 = [true] := rfl
      generalize tb = T at hT hfl q ⊢
      simp only [b24, S.fb, S.hdS, S.tl] at q ⊢
      unfold pen at q ⊢
      refine Eq.mp ?_ q
      clear q
      sizeOf_list_dec
      rw [hfl]
      sizeOf_list_dec
      rfl
  · intro pl i v r os o2 hl h2 h3
    match os, hl with
    | [o3, o4, o5, o6], _ => exact rest_ok (n := 13) hT h2 (by omega)

end K05
end Lw
namespace Lw.K05
open PySem L2

def n0 : List Str := ["thing", "least"]
def n1 : List Str := ["thing", "one"]
def n2 : List Str := ["thing"]
def n3 : List Str := ["thing", "one"]
def n4 : List Str := ["row", "one"]
def n5 : List Str := ["rows", "drawers", "found", "row", "one"]
def n6 : List Str := ["thing", "drawers"]
def n7 : List Str := ["thing", "drawers", "states", "letter", "goal", "rows", "row"]
def n8 : List Str := ["thing", "drawers", "states", "one"]
def n9 : List Str := ["thing", "drawers", "states", "one"]
def n10 : List Str := ["row", "one"]
def n11 : List Str := ["moves", "end", "words", "letter", "goal", "rows", "row"]
def n12 : List Str := ["machine", "drawers", "states", "word", "moves", "end"]
def n13 : List Str := ["_law_script"]
def n14 : List Str := ["_law_pen_here", "_law_nth", "_law_cell", "_law_low", "_law_mid", "_law_top"]
def n15 : List Str := ["_law_pen_here", "_law_below", "_law_digit"]
def n16 : List Str := ["_law_pen_here", "_law_tally", "_law_pool", "_law_turn"]
def n17 : List Str := ["_law_pen_here", "_law_some", "_law_pool", "_law_left", "_law_found", "_law_turn", "_law_more"]
def n18 : List Str := ["_law_pen_here", "_law_drawers", "_law_pool", "_law_homes", "_law_drawer", "_law_goal", "_law_some"]
def n19 : List Str := ["_law_pen_here", "_law_reads", "_law_tells", "_law_states", "_law_drawers", "_law_found", "_law_spot", "_law_moves", "_law_letter", "_law_poured", "_law_finish", "_law_goal", "_law_drawer"]
def n20 : List Str := ["_law_pen_here", "_law_reads", "_law_tells", "_law_states", "_law_drawers", "_law_some", "_law_found", "_law_moves", "_law_finish", "_law_left", "_law_turn"]
def n21 : List Str := ["_law_row", "_law_one"]
def n22 : List Str := ["_law_machine_here", "_law_found", "_law_moves", "_law_finish", "_law_letter", "_law_goal", "_law_rows_here", "_law_row"]
def n23 : List Str := ["_law_pen_here", "_law_fewest", "_law_beyond", "_law_size", "_law_sign", "_law_spot"]
def n24 : List Str := ["_law_script", "_law_pen_here", "_law_turn", "_law_ring_here", "_law_moves", "_law_machine_here", "_law_stood"]
def gm : Gm := ⟨[none, some "is_text", some "is_letter", some "is_row", some "drawers_in", some "are_once", some "is_end", some "is_move", some "is_state", some "is_machine", some "row_word", some "state_words", some "written", some "_law_pen", some "_law_well", some "_law_draw", some "_law_letters", some "_law_mix", some "_law_rows", some "_law_machine", some "_law_great_machine", some "_law_row_sign", some "_law_sheet", some "_law_ring", some "law"], [], [], [("ALPHABET", .inr "abcdefghijklmnopqrstuvwxyz")], [(0, "is_whole", [.inl 0])]⟩
def top (i : Nat) : Stmt := PySem.Challenge.pw_leastwish_k05_machines_written.main.body.getD i (.Pass ⟨0, 0, 0, 0⟩)
abbrev s0 : Stmt := top 2
abbrev s1 : Stmt := top 3
abbrev s2 : Stmt := top 4
abbrev s3 : Stmt := top 5
abbrev s4 : Stmt := top 6
abbrev s5 : Stmt := top 7
abbrev s6 : Stmt := top 8
abbrev s7 : Stmt := top 9
abbrev s8 : Stmt := top 10
abbrev s9 : Stmt := top 11
abbrev s10 : Stmt := top 13
abbrev s11 : Stmt := top 14
abbrev s12 : Stmt := top 15
abbrev s13 : Stmt := top 17
abbrev s14 : Stmt := top 18
abbrev s15 : Stmt := top 19
abbrev s16 : Stmt := top 20
abbrev s17 : Stmt := top 21
abbrev s18 : Stmt := top 22
abbrev s19 : Stmt := top 23
abbrev s20 : Stmt := top 24
abbrev s21 : Stmt := top 25
abbrev s22 : Stmt := top 26
abbrev s23 : Stmt := top 27
abbrev s24 : Stmt := top 28
theorem m0 : ms gm n0 (fun _ => true) (defScope s0) b0 (defBody s0) = true := by decide +kernel
theorem sc0 : FnScope n0 ["thing", "least"] (defScope s0) := ⟨rfl, rfl, rfl, by decide +kernel, rfl, by decide +kernel, by decide +kernel⟩
theorem m1 : ms gm n1 (fun _ => true) (defScope s1) b1 (defBody s1) = true := by decide +kernel
theorem sc1 : FnScope n1 ["thing"] (defScope s1) := ⟨rfl, rfl, rfl, by decide +kernel, rfl, by decide +kernel, by decide +kernel⟩
theorem m2 : ms gm n2 (fun _ => true) (defScope s2) b2 (defBody s2) = true := by decide +kernel
theorem sc2 : FnScope n2 ["thing"] (defScope s2) := ⟨rfl, rfl, rfl, by decide +kernel, rfl, by decide +kernel, by decide +kernel⟩
theorem m3 : ms gm n3 (fun _ => true) (defScope s3) b3 (defBody s3) = true := by decide +kernel
theorem sc3 : FnScope n3 ["thing"] (defScope s3) := ⟨rfl, rfl, rfl, by decide +kernel, rfl, by decide +kernel, by decide +kernel⟩
theorem m4 : ms gm n4 (fun _ => true) (defScope s4) b4 (defBody s4) = true := by decide +kernel
theorem sc4 : FnScope n4 ["row"] (defScope s4) := ⟨rfl, rfl, rfl, by decide +kernel, rfl, by decide +kernel, by decide +kernel⟩
theorem m5 : ms gm n5 (fun _ => true) (defScope s5) b5 (defBody s5) = true := by decide +kernel
theorem sc5 : FnScope n5 ["rows", "drawers"] (defScope s5) := ⟨rfl, rfl, rfl, by decide +kernel, rfl, by decide +kernel, by decide +kernel⟩
theorem m6 : ms gm n6 (fun _ => true) (defScope s6) b6 (defBody s6) = true := by decide +kernel
theorem sc6 : FnScope n6 ["thing", "drawers"] (defScope s6) := ⟨rfl, rfl, rfl, by decide +kernel, rfl, by decide +kernel, by decide +kernel⟩
theorem m7 : ms gm n7 (fun _ => true) (defScope s7) b7 (defBody s7) = true := by decide +kernel
theorem sc7 : FnScope n7 ["thing", "drawers", "states"] (defScope s7) := ⟨rfl, rfl, rfl, by decide +kernel, rfl, by decide +kernel, by decide +kernel⟩
theorem m8 : ms gm n8 (fun _ => true) (defScope s8) b8 (defBody s8) = true := by decide +kernel
theorem sc8 : FnScope n8 ["thing", "drawers", "states"] (defScope s8) := ⟨rfl, rfl, rfl, by decide +kernel, rfl, by decide +kernel, by decide +kernel⟩
theorem m9 : ms gm n9 (fun _ => true) (defScope s9) b9 (defBody s9) = true := by decide +kernel
theorem sc9 : FnScope n9 ["thing"] (defScope s9) := ⟨rfl, rfl, rfl, by decide +kernel, rfl, by decide +kernel, by decide +kernel⟩
theorem m10 : ms gm n10 (fun _ => true) (defScope s10) b10 (defBody s10) = true := by decide +kernel
theorem sc10 : FnScope n10 ["row"] (defScope s10) := ⟨rfl, rfl, rfl, by decide +kernel, rfl, by decide +kernel, by decide +kernel⟩
theorem m11 : ms gm n11 (fun _ => true) (defScope s11) b11 (defBody s11) = true := by decide +kernel
theorem sc11 : FnScope n11 ["moves", "end"] (defScope s11) := ⟨rfl, rfl, rfl, by decide +kernel, rfl, by decide +kernel, by decide +kernel⟩
theorem m12 : ms gm n12 (fun _ => true) (defScope s12) b12 (defBody s12) = true := by decide +kernel
theorem sc12 : FnScope n12 ["machine"] (defScope s12) := ⟨rfl, rfl, rfl, by decide +kernel, rfl, by decide +kernel, by decide +kernel⟩
theorem m13 : ms gm n13 (fun _ => true) (defScope s13) b13 (defBody s13) = true := by decide +kernel
theorem sc13 : FnScope n13 ["_law_script"] (defScope s13) := ⟨rfl, rfl, rfl, by decide +kernel, rfl, by decide +kernel, by decide +kernel⟩
theorem m14 : ms gm n14 (fun _ => true) (defScope s14) b14 (defBody s14) = true := by decide +kernel
theorem sc14 : FnScope n14 ["_law_pen_here"] (defScope s14) := ⟨rfl, rfl, rfl, by decide +kernel, rfl, by decide +kernel, by decide +kernel⟩
theorem m15 : ms gm n15 (fun _ => true) (defScope s15) b15 (defBody s15) = true := by decide +kernel
theorem sc15 : FnScope n15 ["_law_pen_here", "_law_below"] (defScope s15) := ⟨rfl, rfl, rfl, by decide +kernel, rfl, by decide +kernel, by decide +kernel⟩
theorem m16 : ms gm n16 (fun _ => true) (defScope s16) b16 (defBody s16) = true := by decide +kernel
theorem sc16 : FnScope n16 ["_law_pen_here", "_law_tally"] (defScope s16) := ⟨rfl, rfl, rfl, by decide +kernel, rfl, by decide +kernel, by decide +kernel⟩
theorem m17 : ms gm n17 (fun _ => true) (defScope s17) b17 (defBody s17) = true := by decide +kernel
theorem sc17 : FnScope n17 ["_law_pen_here", "_law_some", "_law_pool"] (defScope s17) := ⟨rfl, rfl, rfl, by decide +kernel, rfl, by decide +kernel, by decide +kernel⟩
theorem m18 : ms gm n18 (fun _ => true) (defScope s18) b18 (defBody s18) = true := by decide +kernel
theorem sc18 : FnScope n18 ["_law_pen_here", "_law_drawers", "_law_pool"] (defScope s18) := ⟨rfl, rfl, rfl, by decide +kernel, rfl, by decide +kernel, by decide +kernel⟩
theorem m19 : ms gm n19 (fun _ => true) (defScope s19) b19 (defBody s19) = true := by decide +kernel
theorem sc19 : FnScope n19 ["_law_pen_here", "_law_reads", "_law_tells", "_law_states", "_law_drawers"] (defScope s19) := ⟨rfl, rfl, rfl, by decide +kernel, rfl, by decide +kernel, by decide +kernel⟩
theorem m20 : ms gm n20 (fun _ => true) (defScope s20) b20 (defBody s20) = true := by decide +kernel
theorem sc20 : FnScope n20 ["_law_pen_here"] (defScope s20) := ⟨rfl, rfl, rfl, by decide +kernel, rfl, by decide +kernel, by decide +kernel⟩
theorem m21 : ms gm n21 (fun _ => true) (defScope s21) b21 (defBody s21) = true := by decide +kernel
theorem sc21 : FnScope n21 ["_law_row"] (defScope s21) := ⟨rfl, rfl, rfl, by decide +kernel, rfl, by decide +kernel, by decide +kernel⟩
theorem m22 : ms gm n22 (fun _ => true) (defScope s22) b22 (defBody s22) = true := by decide +kernel
theorem sc22 : FnScope n22 ["_law_machine_here"] (defScope s22) := ⟨rfl, rfl, rfl, by decide +kernel, rfl, by decide +kernel, by decide +kernel⟩
theorem m23 : ms gm n23 (fun _ => true) (defScope s23) b23 (defBody s23) = true := by decide +kernel
theorem sc23 : FnScope n23 ["_law_pen_here", "_law_fewest", "_law_beyond"] (defScope s23) := ⟨rfl, rfl, rfl, by decide +kernel, rfl, by decide +kernel, by decide +kernel⟩
theorem m24 : ms gm n24 (fun _ => true) (defScope s24) b24 (defBody s24) = true := by decide +kernel
theorem sc24 : FnScope n24 ["_law_script"] (defScope s24) := ⟨rfl, rfl, rfl, by decide +kernel, rfl, by decide +kernel, by decide +kernel⟩
theorem book {K : Fg} {h : Heap} {mg : Str → Option Value} {fa : Addr} (KX : K.In h) (G : h.Ns mainGlobals mg) (hfa : mg "law" = some (.ref fa))
    {f0 D0 : Addr} {od0 an0 : Option Addr} {sl0 : Array (Option Value)} {oc0 dc0 pm0 cd0 ct0 : Value} (a0 : PySem.W.nsIn K mainGlobals "is_whole" = some (some (.ref f0))) (l0 : K.lookup f0 = some ⟨oc0, od0, .func (PySem.W.fnOf "is_whole" "is_whole" (defArgs s0) (defBody s0) (defScope s0) .none (.ref D0) dc0 pm0 an0 cd0 ct0), sl0⟩) (c0 : PySem.W.codeIn K cd0 "is_whole" = true) (k0 : PySem.W.keepIn K (.ref f0) = true) {dt0_0 : Tok} (dn0_0 : PySem.W.nsIn K D0 "least" = some (some (.int (0) dt0_0)))
    {f1 : Addr} {od1 an1 : Option Addr} {sl1 : Array (Option Value)} {oc1 kV1 dc1 pm1 cd1 ct1 : Value} (a1 : PySem.W.nsIn K mainGlobals "is_text" = some (some (.ref f1))) (l1 : K.lookup f1 = some ⟨oc1, od1, .func (PySem.W.fnOf "is_text" "is_text" (defArgs s1) (defBody s1) (defScope s1) .none kV1 dc1 pm1 an1 cd1 ct1), sl1⟩) (c1 : PySem.W.codeIn K cd1 "is_text" = true) (k1 : PySem.W.keepIn K (.ref f1) = true)
    {f2 : Addr} {od2 an2 : Option Addr} {sl2 : Array (Option Value)} {oc2 kV2 dc2 pm2 cd2 ct2 : Value} (a2 : PySem.W.nsIn K mainGlobals "is_letter" = some (some (.ref f2))) (l2 : K.lookup f2 = some ⟨oc2, od2, .func (PySem.W.fnOf "is_letter" "is_letter" (defArgs s2) (defBody s2) (defScope s2) .none kV2 dc2 pm2 an2 cd2 ct2), sl2⟩) (c2 : PySem.W.codeIn K cd2 "is_letter" = true) (k2 : PySem.W.keepIn K (.ref f2) = true)
    {f3 : Addr} {od3 an3 : Option Addr} {sl3 : Array (Option Value)} {oc3 kV3 dc3 pm3 cd3 ct3 : Value} (a3 : PySem.W.nsIn K mainGlobals "is_row" = some (some (.ref f3))) (l3 : K.lookup f3 = some ⟨oc3, od3, .func (PySem.W.fnOf "is_row" "is_row" (defArgs s3) (defBody s3) (defScope s3) .none kV3 dc3 pm3 an3 cd3 ct3), sl3⟩) (c3 : PySem.W.codeIn K cd3 "is_row" = true) (k3 : PySem.W.keepIn K (.ref f3) = true)
    {f4 : Addr} {od4 an4 : Option Addr} {sl4 : Array (Option Value)} {oc4 kV4 dc4 pm4 cd4 ct4 : Value} (a4 : PySem.W.nsIn K mainGlobals "drawers_in" = some (some (.ref f4))) (l4 : K.lookup f4 = some ⟨oc4, od4, .func (PySem.W.fnOf "drawers_in" "drawers_in" (defArgs s4) (defBody s4) (defScope s4) .none kV4 dc4 pm4 an4 cd4 ct4), sl4⟩) (c4 : PySem.W.codeIn K cd4 "drawers_in" = true) (k4 : PySem.W.keepIn K (.ref f4) = true)
    {f5 : Addr} {od5 an5 : Option Addr} {sl5 : Array (Option Value)} {oc5 kV5 dc5 pm5 cd5 ct5 : Value} (a5 : PySem.W.nsIn K mainGlobals "are_once" = some (some (.ref f5))) (l5 : K.lookup f5 = some ⟨oc5, od5, .func (PySem.W.fnOf "are_once" "are_once" (defArgs s5) (defBody s5) (defScope s5) .none kV5 dc5 pm5 an5 cd5 ct5), sl5⟩) (c5 : PySem.W.codeIn K cd5 "are_once" = true) (k5 : PySem.W.keepIn K (.ref f5) = true)
    {f6 : Addr} {od6 an6 : Option Addr} {sl6 : Array (Option Value)} {oc6 kV6 dc6 pm6 cd6 ct6 : Value} (a6 : PySem.W.nsIn K mainGlobals "is_end" = some (some (.ref f6))) (l6 : K.lookup f6 = some ⟨oc6, od6, .func (PySem.W.fnOf "is_end" "is_end" (defArgs s6) (defBody s6) (defScope s6) .none kV6 dc6 pm6 an6 cd6 ct6), sl6⟩) (c6 : PySem.W.codeIn K cd6 "is_end" = true) (k6 : PySem.W.keepIn K (.ref f6) = true)
    {f7 : Addr} {od7 an7 : Option Addr} {sl7 : Array (Option Value)} {oc7 kV7 dc7 pm7 cd7 ct7 : Value} (a7 : PySem.W.nsIn K mainGlobals "is_move" = some (some (.ref f7))) (l7 : K.lookup f7 = some ⟨oc7, od7, .func (PySem.W.fnOf "is_move" "is_move" (defArgs s7) (defBody s7) (defScope s7) .none kV7 dc7 pm7 an7 cd7 ct7), sl7⟩) (c7 : PySem.W.codeIn K cd7 "is_move" = true) (k7 : PySem.W.keepIn K (.ref f7) = true)
    {f8 : Addr} {od8 an8 : Option Addr} {sl8 : Array (Option Value)} {oc8 kV8 dc8 pm8 cd8 ct8 : Value} (a8 : PySem.W.nsIn K mainGlobals "is_state" = some (some (.ref f8))) (l8 : K.lookup f8 = some ⟨oc8, od8, .func (PySem.W.fnOf "is_state" "is_state" (defArgs s8) (defBody s8) (defScope s8) .none kV8 dc8 pm8 an8 cd8 ct8), sl8⟩) (c8 : PySem.W.codeIn K cd8 "is_state" = true) (k8 : PySem.W.keepIn K (.ref f8) = true)
    {f9 : Addr} {od9 an9 : Option Addr} {sl9 : Array (Option Value)} {oc9 kV9 dc9 pm9 cd9 ct9 : Value} (a9 : PySem.W.nsIn K mainGlobals "is_machine" = some (some (.ref f9))) (l9 : K.lookup f9 = some ⟨oc9, od9, .func (PySem.W.fnOf "is_machine" "is_machine" (defArgs s9) (defBody s9) (defScope s9) .none kV9 dc9 pm9 an9 cd9 ct9), sl9⟩) (c9 : PySem.W.codeIn K cd9 "is_machine" = true) (k9 : PySem.W.keepIn K (.ref f9) = true)
    {f10 : Addr} {od10 an10 : Option Addr} {sl10 : Array (Option Value)} {oc10 kV10 dc10 pm10 cd10 ct10 : Value} (a10 : PySem.W.nsIn K mainGlobals "row_word" = some (some (.ref f10))) (l10 : K.lookup f10 = some ⟨oc10, od10, .func (PySem.W.fnOf "row_word" "row_word" (defArgs s10) (defBody s10) (defScope s10) .none kV10 dc10 pm10 an10 cd10 ct10), sl10⟩) (c10 : PySem.W.codeIn K cd10 "row_word" = true) (k10 : PySem.W.keepIn K (.ref f10) = true)
    {f11 : Addr} {od11 an11 : Option Addr} {sl11 : Array (Option Value)} {oc11 kV11 dc11 pm11 cd11 ct11 : Value} (a11 : PySem.W.nsIn K mainGlobals "state_words" = some (some (.ref f11))) (l11 : K.lookup f11 = some ⟨oc11, od11, .func (PySem.W.fnOf "state_words" "state_words" (defArgs s11) (defBody s11) (defScope s11) .none kV11 dc11 pm11 an11 cd11 ct11), sl11⟩) (c11 : PySem.W.codeIn K cd11 "state_words" = true) (k11 : PySem.W.keepIn K (.ref f11) = true)
    {f12 : Addr} {od12 an12 : Option Addr} {sl12 : Array (Option Value)} {oc12 kV12 dc12 pm12 cd12 ct12 : Value} (a12 : PySem.W.nsIn K mainGlobals "written" = some (some (.ref f12))) (l12 : K.lookup f12 = some ⟨oc12, od12, .func (PySem.W.fnOf "written" "written" (defArgs s12) (defBody s12) (defScope s12) .none kV12 dc12 pm12 an12 cd12 ct12), sl12⟩) (c12 : PySem.W.codeIn K cd12 "written" = true) (k12 : PySem.W.keepIn K (.ref f12) = true)
    {f13 : Addr} {od13 an13 : Option Addr} {sl13 : Array (Option Value)} {oc13 kV13 dc13 pm13 cd13 ct13 : Value} (a13 : PySem.W.nsIn K mainGlobals "_law_pen" = some (some (.ref f13))) (l13 : K.lookup f13 = some ⟨oc13, od13, .func (PySem.W.fnOf "_law_pen" "_law_pen" (defArgs s13) (defBody s13) (defScope s13) .none kV13 dc13 pm13 an13 cd13 ct13), sl13⟩) (c13 : PySem.W.codeIn K cd13 "_law_pen" = true) (k13 : PySem.W.keepIn K (.ref f13) = true)
    {f14 : Addr} {od14 an14 : Option Addr} {sl14 : Array (Option Value)} {oc14 kV14 dc14 pm14 cd14 ct14 : Value} (a14 : PySem.W.nsIn K mainGlobals "_law_well" = some (some (.ref f14))) (l14 : K.lookup f14 = some ⟨oc14, od14, .func (PySem.W.fnOf "_law_well" "_law_well" (defArgs s14) (defBody s14) (defScope s14) .none kV14 dc14 pm14 an14 cd14 ct14), sl14⟩) (c14 : PySem.W.codeIn K cd14 "_law_well" = true) (k14 : PySem.W.keepIn K (.ref f14) = true)
    {f15 : Addr} {od15 an15 : Option Addr} {sl15 : Array (Option Value)} {oc15 kV15 dc15 pm15 cd15 ct15 : Value} (a15 : PySem.W.nsIn K mainGlobals "_law_draw" = some (some (.ref f15))) (l15 : K.lookup f15 = some ⟨oc15, od15, .func (PySem.W.fnOf "_law_draw" "_law_draw" (defArgs s15) (defBody s15) (defScope s15) .none kV15 dc15 pm15 an15 cd15 ct15), sl15⟩) (c15 : PySem.W.codeIn K cd15 "_law_draw" = true) (k15 : PySem.W.keepIn K (.ref f15) = true)
    {f16 : Addr} {od16 an16 : Option Addr} {sl16 : Array (Option Value)} {oc16 kV16 dc16 pm16 cd16 ct16 : Value} (a16 : PySem.W.nsIn K mainGlobals "_law_letters" = some (some (.ref f16))) (l16 : K.lookup f16 = some ⟨oc16, od16, .func (PySem.W.fnOf "_law_letters" "_law_letters" (defArgs s16) (defBody s16) (defScope s16) .none kV16 dc16 pm16 an16 cd16 ct16), sl16⟩) (c16 : PySem.W.codeIn K cd16 "_law_letters" = true) (k16 : PySem.W.keepIn K (.ref f16) = true)
    {f17 : Addr} {od17 an17 : Option Addr} {sl17 : Array (Option Value)} {oc17 kV17 dc17 pm17 cd17 ct17 : Value} (a17 : PySem.W.nsIn K mainGlobals "_law_mix" = some (some (.ref f17))) (l17 : K.lookup f17 = some ⟨oc17, od17, .func (PySem.W.fnOf "_law_mix" "_law_mix" (defArgs s17) (defBody s17) (defScope s17) .none kV17 dc17 pm17 an17 cd17 ct17), sl17⟩) (c17 : PySem.W.codeIn K cd17 "_law_mix" = true) (k17 : PySem.W.keepIn K (.ref f17) = true)
    {f18 : Addr} {od18 an18 : Option Addr} {sl18 : Array (Option Value)} {oc18 kV18 dc18 pm18 cd18 ct18 : Value} (a18 : PySem.W.nsIn K mainGlobals "_law_rows" = some (some (.ref f18))) (l18 : K.lookup f18 = some ⟨oc18, od18, .func (PySem.W.fnOf "_law_rows" "_law_rows" (defArgs s18) (defBody s18) (defScope s18) .none kV18 dc18 pm18 an18 cd18 ct18), sl18⟩) (c18 : PySem.W.codeIn K cd18 "_law_rows" = true) (k18 : PySem.W.keepIn K (.ref f18) = true)
    {f19 : Addr} {od19 an19 : Option Addr} {sl19 : Array (Option Value)} {oc19 kV19 dc19 pm19 cd19 ct19 : Value} (a19 : PySem.W.nsIn K mainGlobals "_law_machine" = some (some (.ref f19))) (l19 : K.lookup f19 = some ⟨oc19, od19, .func (PySem.W.fnOf "_law_machine" "_law_machine" (defArgs s19) (defBody s19) (defScope s19) .none kV19 dc19 pm19 an19 cd19 ct19), sl19⟩) (c19 : PySem.W.codeIn K cd19 "_law_machine" = true) (k19 : PySem.W.keepIn K (.ref f19) = true)
    {f20 : Addr} {od20 an20 : Option Addr} {sl20 : Array (Option Value)} {oc20 kV20 dc20 pm20 cd20 ct20 : Value} (a20 : PySem.W.nsIn K mainGlobals "_law_great_machine" = some (some (.ref f20))) (l20 : K.lookup f20 = some ⟨oc20, od20, .func (PySem.W.fnOf "_law_great_machine" "_law_great_machine" (defArgs s20) (defBody s20) (defScope s20) .none kV20 dc20 pm20 an20 cd20 ct20), sl20⟩) (c20 : PySem.W.codeIn K cd20 "_law_great_machine" = true) (k20 : PySem.W.keepIn K (.ref f20) = true)
    {f21 : Addr} {od21 an21 : Option Addr} {sl21 : Array (Option Value)} {oc21 kV21 dc21 pm21 cd21 ct21 : Value} (a21 : PySem.W.nsIn K mainGlobals "_law_row_sign" = some (some (.ref f21))) (l21 : K.lookup f21 = some ⟨oc21, od21, .func (PySem.W.fnOf "_law_row_sign" "_law_row_sign" (defArgs s21) (defBody s21) (defScope s21) .none kV21 dc21 pm21 an21 cd21 ct21), sl21⟩) (c21 : PySem.W.codeIn K cd21 "_law_row_sign" = true) (k21 : PySem.W.keepIn K (.ref f21) = true)
    {f22 : Addr} {od22 an22 : Option Addr} {sl22 : Array (Option Value)} {oc22 kV22 dc22 pm22 cd22 ct22 : Value} (a22 : PySem.W.nsIn K mainGlobals "_law_sheet" = some (some (.ref f22))) (l22 : K.lookup f22 = some ⟨oc22, od22, .func (PySem.W.fnOf "_law_sheet" "_law_sheet" (defArgs s22) (defBody s22) (defScope s22) .none kV22 dc22 pm22 an22 cd22 ct22), sl22⟩) (c22 : PySem.W.codeIn K cd22 "_law_sheet" = true) (k22 : PySem.W.keepIn K (.ref f22) = true)
    {f23 : Addr} {od23 an23 : Option Addr} {sl23 : Array (Option Value)} {oc23 kV23 dc23 pm23 cd23 ct23 : Value} (a23 : PySem.W.nsIn K mainGlobals "_law_ring" = some (some (.ref f23))) (l23 : K.lookup f23 = some ⟨oc23, od23, .func (PySem.W.fnOf "_law_ring" "_law_ring" (defArgs s23) (defBody s23) (defScope s23) .none kV23 dc23 pm23 an23 cd23 ct23), sl23⟩) (c23 : PySem.W.codeIn K cd23 "_law_ring" = true) (k23 : PySem.W.keepIn K (.ref f23) = true)
    {f24 : Addr} {od24 an24 : Option Addr} {sl24 : Array (Option Value)} {oc24 kV24 dc24 pm24 cd24 ct24 : Value} (a24 : PySem.W.nsIn K mainGlobals "law" = some (some (.ref f24))) (l24 : K.lookup f24 = some ⟨oc24, od24, .func (PySem.W.fnOf "law" "law" (defArgs s24) (defBody s24) (defScope s24) .none kV24 dc24 pm24 an24 cd24 ct24), sl24⟩) (c24 : PySem.W.codeIn K cd24 "law" = true) (k24 : PySem.W.keepIn K (.ref f24) = true)
    (z0 : PySem.W.nsIn K mainGlobals "len" = some none)
    (z1 : PySem.W.nsIn K mainGlobals "list" = some none)
    (z2 : PySem.W.nsIn K mainGlobals "tuple" = some none)
    (z3 : PySem.W.nsIn K mainGlobals "sorted" = some none)
    (z4 : PySem.W.nsIn K mainGlobals "repr" = some none)
    (z5 : PySem.W.nsIn K mainGlobals "isinstance" = some none)
    (z6 : PySem.W.nsIn K mainGlobals "all" = some none)
    (z7 : PySem.W.nsIn K mainGlobals "any" = some none)
    (z8 : PySem.W.nsIn K mainGlobals "sum" = some none)
    (z9 : PySem.W.nsIn K mainGlobals "min" = some none)
    (z10 : PySem.W.nsIn K mainGlobals "max" = some none)
    (z11 : PySem.W.nsIn K mainGlobals "abs" = some none)
    (z12 : PySem.W.nsIn K mainGlobals "str" = some none)
    (z13 : PySem.W.nsIn K mainGlobals "int" = some none)
    (z14 : PySem.W.nsIn K mainGlobals "bool" = some none)
    (z15 : PySem.W.nsIn K mainGlobals "dict" = some none)
    (z16 : PySem.W.nsIn K mainGlobals "range" = some none)
    (z17 : PySem.W.nsIn K mainGlobals "enumerate" = some none)
    (z18 : PySem.W.nsIn K mainGlobals "set" = some none)
    (z19 : PySem.W.nsIn K mainGlobals "zip" = some none)
    {t0 : Tok} (gc0 : PySem.W.nsIn K mainGlobals "ALPHABET" = some (some (.str "abcdefghijklmnopqrstuvwxyz" t0))) :
    ∃ cs, Book K mg cs tb gm ∧ ∃ fd, Ent K mg tb gm 24 "law" fa fd ["_law_script"] ∧ ∀ (s : Shared) (u : Value), BindsTo s fd ⟨[u], []⟩ [("_law_script", u)] := by
  obtain rfl : f24 = fa := by have ef := hfa.symm.trans (PySem.W.mg_of KX G a24); cases ef; rfl
  have F0 := fun_mk (st := s0) l0 c0 k0
  have b0 : ∃ ds, Vals (([.inl 0] : List L2.Key).map kV) ds ∧ Binds K _ ["thing", "least"] ds := binds_kw (kws := [("least", .inl 0)]) l0 c0 k0 (by intro q hq; simp only [List.mem_cons, List.not_mem_nil, or_false] at hq; subst hq; exact ⟨_, dn0_0, ⟨dt0_0, rfl⟩⟩) 1 (by decide) rfl (fun _ _ _ _ _ us ks hl hk => match us, ks, hl, hk with | [_], [_], _, _ => ⟨_, _, _, _, _, _, rfl, rfl, rfl⟩)
  have e0 : EntM K tb gm 0 f0 _ ["thing", "least"] := ⟨k0, ⟨"is_whole", n0, "is_whole", s0, d0, rfl, F0, sc0, rfl, rfl, by decide +kernel, m0⟩⟩
  have F1 := fun_mk (st := s1) l1 c1 k1
  have b1 : Binds K _ ["thing"] [] := F1.binds (ps := ["thing"]) (fun _ _ _ _ _ _ us hl => match us, hl with | [_], _ => rfl)
  have e1 : EntM K tb gm 1 f1 _ ["thing"] := ⟨k1, ⟨"is_text", n1, "is_text", s1, d1, rfl, F1, sc1, rfl, rfl, by decide +kernel, m1⟩⟩
  have F2 := fun_mk (st := s2) l2 c2 k2
  have b2 : Binds K _ ["thing"] [] := F2.binds (ps := ["thing"]) (fun _ _ _ _ _ _ us hl => match us, hl with | [_], _ => rfl)
  have e2 : EntM K tb gm 2 f2 _ ["thing"] := ⟨k2, ⟨"is_letter", n2, "is_letter", s2, d2, rfl, F2, sc2, rfl, rfl, by decide +kernel, m2⟩⟩
  have F3 := fun_mk (st := s3) l3 c3 k3
  have b3 : Binds K _ ["thing"] [] := F3.binds (ps := ["thing"]) (fun _ _ _ _ _ _ us hl => match us, hl with | [_], _ => rfl)
  have e3 : EntM K tb gm 3 f3 _ ["thing"] := ⟨k3, ⟨"is_row", n3, "is_row", s3, d3, rfl, F3, sc3, rfl, rfl, by decide +kernel, m3⟩⟩
  have F4 := fun_mk (st := s4) l4 c4 k4
  have b4 : Binds K _ ["row"] [] := F4.binds (ps := ["row"]) (fun _ _ _ _ _ _ us hl => match us, hl with | [_], _ => rfl)
  have e4 : EntM K tb gm 4 f4 _ ["row"] := ⟨k4, ⟨"drawers_in", n4, "drawers_in", s4, d4, rfl, F4, sc4, rfl, rfl, by decide +kernel, m4⟩⟩
  have F5 := fun_mk (st := s5) l5 c5 k5
  have b5 : Binds K _ ["rows", "drawers"] [] := F5.binds (ps := ["rows", "drawers"]) (fun _ _ _ _ _ _ us hl => match us, hl with | [_, _], _ => rfl)
  have e5 : EntM K tb gm 5 f5 _ ["rows", "drawers"] := ⟨k5, ⟨"are_once", n5, "are_once", s5, d5, rfl, F5, sc5, rfl, rfl, by decide +kernel, m5⟩⟩
  have F6 := fun_mk (st := s6) l6 c6 k6
  have b6 : Binds K _ ["thing", "drawers"] [] := F6.binds (ps := ["thing", "drawers"]) (fun _ _ _ _ _ _ us hl => match us, hl with | [_, _], _ => rfl)
  have e6 : EntM K tb gm 6 f6 _ ["thing", "drawers"] := ⟨k6, ⟨"is_end", n6, "is_end", s6, d6, rfl, F6, sc6, rfl, rfl, by decide +kernel, m6⟩⟩
  have F7 := fun_mk (st := s7) l7 c7 k7
  have b7 : Binds K _ ["thing", "drawers", "states"] [] := F7.binds (ps := ["thing", "drawers", "states"]) (fun _ _ _ _ _ _ us hl => match us, hl with | [_, _, _], _ => rfl)
  have e7 : EntM K tb gm 7 f7 _ ["thing", "drawers", "states"] := ⟨k7, ⟨"is_move", n7, "is_move", s7, d7, rfl, F7, sc7, rfl, rfl, by decide +kernel, m7⟩⟩
  have F8 := fun_mk (st := s8) l8 c8 k8
  have b8 : Binds K _ ["thing", "drawers", "states"] [] := F8.binds (ps := ["thing", "drawers", "states"]) (fun _ _ _ _ _ _ us hl => match us, hl with | [_, _, _], _ => rfl)
  have e8 : EntM K tb gm 8 f8 _ ["thing", "drawers", "states"] := ⟨k8, ⟨"is_state", n8, "is_state", s8, d8, rfl, F8, sc8, rfl, rfl, by decide +kernel, m8⟩⟩
  have F9 := fun_mk (st := s9) l9 c9 k9
  have b9 : Binds K _ ["thing"] [] := F9.binds (ps := ["thing"]) (fun _ _ _ _ _ _ us hl => match us, hl with | [_], _ => rfl)
  have e9 : EntM K tb gm 9 f9 _ ["thing"] := ⟨k9, ⟨"is_machine", n9, "is_machine", s9, d9, rfl, F9, sc9, rfl, rfl, by decide +kernel, m9⟩⟩
  have F10 := fun_mk (st := s10) l10 c10 k10
  have b10 : Binds K _ ["row"] [] := F10.binds (ps := ["row"]) (fun _ _ _ _ _ _ us hl => match us, hl with | [_], _ => rfl)
  have e10 : EntM K tb gm 10 f10 _ ["row"] := ⟨k10, ⟨"row_word", n10, "row_word", s10, d10, rfl, F10, sc10, rfl, rfl, by decide +kernel, m10⟩⟩
  have F11 := fun_mk (st := s11) l11 c11 k11
  have b11 : Binds K _ ["moves", "end"] [] := F11.binds (ps := ["moves", "end"]) (fun _ _ _ _ _ _ us hl => match us, hl with | [_, _], _ => rfl)
  have e11 : EntM K tb gm 11 f11 _ ["moves", "end"] := ⟨k11, ⟨"state_words", n11, "state_words", s11, d11, rfl, F11, sc11, rfl, rfl, by decide +kernel, m11⟩⟩
  have F12 := fun_mk (st := s12) l12 c12 k12
  have b12 : Binds K _ ["machine"] [] := F12.binds (ps := ["machine"]) (fun _ _ _ _ _ _ us hl => match us, hl with | [_], _ => rfl)
  have e12 : EntM K tb gm 12 f12 _ ["machine"] := ⟨k12, ⟨"written", n12, "written", s12, d12, rfl, F12, sc12, rfl, rfl, by decide +kernel, m12⟩⟩
  have F13 := fun_mk (st := s13) l13 c13 k13
  have b13 : Binds K _ ["_law_script"] [] := F13.binds (ps := ["_law_script"]) (fun _ _ _ _ _ _ us hl => match us, hl with | [_], _ => rfl)
  have e13 : EntM K tb gm 13 f13 _ ["_law_script"] := ⟨k13, ⟨"_law_pen", n13, "_law_pen", s13, d13, rfl, F13, sc13, rfl, rfl, by decide +kernel, m13⟩⟩
  have F14 := fun_mk (st := s14) l14 c14 k14
  have b14 : Binds K _ ["_law_pen_here"] [] := F14.binds (ps := ["_law_pen_here"]) (fun _ _ _ _ _ _ us hl => match us, hl with | [_], _ => rfl)
  have e14 : EntM K tb gm 14 f14 _ ["_law_pen_here"] := ⟨k14, ⟨"_law_well", n14, "_law_well", s14, d14, rfl, F14, sc14, rfl, rfl, by decide +kernel, m14⟩⟩
  have F15 := fun_mk (st := s15) l15 c15 k15
  have b15 : Binds K _ ["_law_pen_here", "_law_below"] [] := F15.binds (ps := ["_law_pen_here", "_law_below"]) (fun _ _ _ _ _ _ us hl => match us, hl with | [_, _], _ => rfl)
  have e15 : EntM K tb gm 15 f15 _ ["_law_pen_here", "_law_below"] := ⟨k15, ⟨"_law_draw", n15, "_law_draw", s15, d15, rfl, F15, sc15, rfl, rfl, by decide +kernel, m15⟩⟩
  have F16 := fun_mk (st := s16) l16 c16 k16
  have b16 : Binds K _ ["_law_pen_here", "_law_tally"] [] := F16.binds (ps := ["_law_pen_here", "_law_tally"]) (fun _ _ _ _ _ _ us hl => match us, hl with | [_, _], _ => rfl)
  have e16 : EntM K tb gm 16 f16 _ ["_law_pen_here", "_law_tally"] := ⟨k16, ⟨"_law_letters", n16, "_law_letters", s16, d16, rfl, F16, sc16, rfl, rfl, by decide +kernel, m16⟩⟩
  have F17 := fun_mk (st := s17) l17 c17 k17
  have b17 : Binds K _ ["_law_pen_here", "_law_some", "_law_pool"] [] := F17.binds (ps := ["_law_pen_here", "_law_some", "_law_pool"]) (fun _ _ _ _ _ _ us hl => match us, hl with | [_, _, _], _ => rfl)
  have e17 : EntM K tb gm 17 f17 _ ["_law_pen_here", "_law_some", "_law_pool"] := ⟨k17, ⟨"_law_mix", n17, "_law_mix", s17, d17, rfl, F17, sc17, rfl, rfl, by decide +kernel, m17⟩⟩
  have F18 := fun_mk (st := s18) l18 c18 k18
  have b18 : Binds K _ ["_law_pen_here", "_law_drawers", "_law_pool"] [] := F18.binds (ps := ["_law_pen_here", "_law_drawers", "_law_pool"]) (fun _ _ _ _ _ _ us hl => match us, hl with | [_, _, _], _ => rfl)
  have e18 : EntM K tb gm 18 f18 _ ["_law_pen_here", "_law_drawers", "_law_pool"] := ⟨k18, ⟨"_law_rows", n18, "_law_rows", s18, d18, rfl, F18, sc18, rfl, rfl, by decide +kernel, m18⟩⟩
  have F19 := fun_mk (st := s19) l19 c19 k19
  have b19 : Binds K _ ["_law_pen_here", "_law_reads", "_law_tells", "_law_states", "_law_drawers"] [] := F19.binds (ps := ["_law_pen_here", "_law_reads", "_law_tells", "_law_states", "_law_drawers"]) (fun _ _ _ _ _ _ us hl => match us, hl with | [_, _, _, _, _], _ => rfl)
  have e19 : EntM K tb gm 19 f19 _ ["_law_pen_here", "_law_reads", "_law_tells", "_law_states", "_law_drawers"] := ⟨k19, ⟨"_law_machine", n19, "_law_machine", s19, d19, rfl, F19, sc19, rfl, rfl, by decide +kernel, m19⟩⟩
  have F20 := fun_mk (st := s20) l20 c20 k20
  have b20 : Binds K _ ["_law_pen_here"] [] := F20.binds (ps := ["_law_pen_here"]) (fun _ _ _ _ _ _ us hl => match us, hl with | [_], _ => rfl)
  have e20 : EntM K tb gm 20 f20 _ ["_law_pen_here"] := ⟨k20, ⟨"_law_great_machine", n20, "_law_great_machine", s20, d20, rfl, F20, sc20, rfl, rfl, by decide +kernel, m20⟩⟩
  have F21 := fun_mk (st := s21) l21 c21 k21
  have b21 : Binds K _ ["_law_row"] [] := F21.binds (ps := ["_law_row"]) (fun _ _ _ _ _ _ us hl => match us, hl with | [_], _ => rfl)
  have e21 : EntM K tb gm 21 f21 _ ["_law_row"] := ⟨k21, ⟨"_law_row_sign", n21, "_law_row_sign", s21, d21, rfl, F21, sc21, rfl, rfl, by decide +kernel, m21⟩⟩
  have F22 := fun_mk (st := s22) l22 c22 k22
  have b22 : Binds K _ ["_law_machine_here"] [] := F22.binds (ps := ["_law_machine_here"]) (fun _ _ _ _ _ _ us hl => match us, hl with | [_], _ => rfl)
  have e22 : EntM K tb gm 22 f22 _ ["_law_machine_here"] := ⟨k22, ⟨"_law_sheet", n22, "_law_sheet", s22, d22, rfl, F22, sc22, rfl, rfl, by decide +kernel, m22⟩⟩
  have F23 := fun_mk (st := s23) l23 c23 k23
  have b23 : Binds K _ ["_law_pen_here", "_law_fewest", "_law_beyond"] [] := F23.binds (ps := ["_law_pen_here", "_law_fewest", "_law_beyond"]) (fun _ _ _ _ _ _ us hl => match us, hl with | [_, _, _], _ => rfl)
  have e23 : EntM K tb gm 23 f23 _ ["_law_pen_here", "_law_fewest", "_law_beyond"] := ⟨k23, ⟨"_law_ring", n23, "_law_ring", s23, d23, rfl, F23, sc23, rfl, rfl, by decide +kernel, m23⟩⟩
  have F24 := fun_mk (st := s24) l24 c24 k24
  have b24 : Binds K _ ["_law_script"] [] := F24.binds (ps := ["_law_script"]) (fun _ _ _ _ _ _ us hl => match us, hl with | [_], _ => rfl)
  have e24 : EntM K tb gm 24 f24 _ ["_law_script"] := ⟨k24, ⟨"law", n24, "law", s24, d24, rfl, F24, sc24, rfl, rfl, by decide +kernel, m24⟩⟩
  refine ⟨fun c => none, ⟨fun f x hx => ?_, fun f x ks hx => ?_, fun n hn => ?_, fun x k hx => ?_, fun c m f hm => ?_, fun c f x hi hx => ?_, fun c C f hc hf => ?_⟩, _, ⟨PySem.W.mg_of KX G a24, e24⟩, fun s u => .of_eq rfl⟩
  · rcases f with _ | ⟨_ | ⟨_ | ⟨_ | ⟨_ | ⟨_ | ⟨_ | ⟨_ | ⟨_ | ⟨_ | ⟨_ | ⟨_ | ⟨_ | ⟨_ | ⟨_ | ⟨_ | ⟨_ | ⟨_ | ⟨_ | ⟨_ | ⟨_ | ⟨_ | ⟨_ | ⟨_ | ⟨_ | f⟩⟩⟩⟩⟩⟩⟩⟩⟩⟩⟩⟩⟩⟩⟩⟩⟩⟩⟩⟩⟩⟩⟩⟩
    · cases hx
    · cases hx; exact ⟨_, _, _, ⟨PySem.W.mg_of KX G a1, e1⟩, b1⟩
    · cases hx; exact ⟨_, _, _, ⟨PySem.W.mg_of KX G a2, e2⟩, b2⟩
    · cases hx; exact ⟨_, _, _, ⟨PySem.W.mg_of KX G a3, e3⟩, b3⟩
    · cases hx; exact ⟨_, _, _, ⟨PySem.W.mg_of KX G a4, e4⟩, b4⟩
    · cases hx; exact ⟨_, _, _, ⟨PySem.W.mg_of KX G a5, e5⟩, b5⟩
    · cases hx; exact ⟨_, _, _, ⟨PySem.W.mg_of KX G a6, e6⟩, b6⟩
    · cases hx; exact ⟨_, _, _, ⟨PySem.W.mg_of KX G a7, e7⟩, b7⟩
    · cases hx; exact ⟨_, _, _, ⟨PySem.W.mg_of KX G a8, e8⟩, b8⟩
    · cases hx; exact ⟨_, _, _, ⟨PySem.W.mg_of KX G a9, e9⟩, b9⟩
    · cases hx; exact ⟨_, _, _, ⟨PySem.W.mg_of KX G a10, e10⟩, b10⟩
    · cases hx; exact ⟨_, _, _, ⟨PySem.W.mg_of KX G a11, e11⟩, b11⟩
    · cases hx; exact ⟨_, _, _, ⟨PySem.W.mg_of KX G a12, e12⟩, b12⟩
    · cases hx; exact ⟨_, _, _, ⟨PySem.W.mg_of KX G a13, e13⟩, b13⟩
    · cases hx; exact ⟨_, _, _, ⟨PySem.W.mg_of KX G a14, e14⟩, b14⟩
    · cases hx; exact ⟨_, _, _, ⟨PySem.W.mg_of KX G a15, e15⟩, b15⟩
    · cases hx; exact ⟨_, _, _, ⟨PySem.W.mg_of KX G a16, e16⟩, b16⟩
    · cases hx; exact ⟨_, _, _, ⟨PySem.W.mg_of KX G a17, e17⟩, b17⟩
    · cases hx; exact ⟨_, _, _, ⟨PySem.W.mg_of KX G a18, e18⟩, b18⟩
    · cases hx; exact ⟨_, _, _, ⟨PySem.W.mg_of KX G a19, e19⟩, b19⟩
    · cases hx; exact ⟨_, _, _, ⟨PySem.W.mg_of KX G a20, e20⟩, b20⟩
    · cases hx; exact ⟨_, _, _, ⟨PySem.W.mg_of KX G a21, e21⟩, b21⟩
    · cases hx; exact ⟨_, _, _, ⟨PySem.W.mg_of KX G a22, e22⟩, b22⟩
    · cases hx; exact ⟨_, _, _, ⟨PySem.W.mg_of KX G a23, e23⟩, b23⟩
    · cases hx; exact ⟨_, _, _, ⟨PySem.W.mg_of KX G a24, e24⟩, b24⟩
    · cases hx
  · simp only [gm, List.mem_cons, List.not_mem_nil, or_false, Prod.mk.injEq] at hx
    rcases hx with ⟨rfl, rfl, rfl⟩
    · exact ⟨_, _, _, ⟨PySem.W.mg_of KX G a0, e0⟩, b0⟩
  · simp only [allNames, List.mem_cons, List.not_mem_nil, or_false] at hn
    rcases hn with rfl | rfl | rfl | rfl | rfl | rfl | rfl | rfl | rfl | rfl | rfl | rfl | rfl | rfl | rfl | rfl | rfl | rfl | rfl | rfl
    · exact PySem.W.mg_none_of KX G z0
    · exact PySem.W.mg_none_of KX G z1
    · exact PySem.W.mg_none_of KX G z2
    · exact PySem.W.mg_none_of KX G z3
    · exact PySem.W.mg_none_of KX G z4
    · exact PySem.W.mg_none_of KX G z5
    · exact PySem.W.mg_none_of KX G z6
    · exact PySem.W.mg_none_of KX G z7
    · exact PySem.W.mg_none_of KX G z8
    · exact PySem.W.mg_none_of KX G z9
    · exact PySem.W.mg_none_of KX G z10
    · exact PySem.W.mg_none_of KX G z11
    · exact PySem.W.mg_none_of KX G z12
    · exact PySem.W.mg_none_of KX G z13
    · exact PySem.W.mg_none_of KX G z14
    · exact PySem.W.mg_none_of KX G z15
    · exact PySem.W.mg_none_of KX G z16
    · exact PySem.W.mg_none_of KX G z17
    · exact PySem.W.mg_none_of KX G z18
    · exact PySem.W.mg_none_of KX G z19
  · simp only [gm, List.mem_cons, List.not_mem_nil, or_false, Prod.mk.injEq] at hx
    rcases hx with ⟨rfl, rfl⟩
    · exact ⟨_, PySem.W.mg_of KX G gc0, ⟨t0, rfl⟩⟩
  · have hm := mtOf_mem hm
    cases hm
  · have hi := iniOf_mem hi
    cases hi
  · cases hc

end Lw.K05
open PySem PySem.W PyProof.Rows in
set_option maxRecDepth 100000 in
set_option maxHeartbeats 0 in
theorem PySem.Challenge.cw_leastwish_k05_machines_written_holds : PySem.Challenge.rw_leastwish_k05_machines_written.Holds := by
  w_on; o_law; k_head; (case hw => w_witness2)
  k_fill
  refine Lw.law_of (l := PySem.Challenge.rw_leastwish_k05_machines_written) (tb := Lw.K05.tb) (g := Lw.K05.gm) (wf := Lw.K05.wfl) (k := Lw.K05.dpt) (f := 24) (x := "_law_script") rfl (by decide) rfl ⟨rfl, by decide, by decide⟩ (fun w h Y => PySem.W.kIn_of Y) rfl ?F Lw.K05.yes
  case F =>
    intro w mg fa h KX G hmg
    refine' Lw.K05.book KX G hmg ?a0 ?l0 ?c0 ?k0 ?dn0_0 ?a1 ?l1 ?c1 ?k1 ?a2 ?l2 ?c2 ?k2 ?a3 ?l3 ?c3 ?k3 ?a4 ?l4 ?c4 ?k4 ?a5 ?l5 ?c5 ?k5 ?a6 ?l6 ?c6 ?k6 ?a7 ?l7 ?c7 ?k7 ?a8 ?l8 ?c8 ?k8 ?a9 ?l9 ?c9 ?k9 ?a10 ?l10 ?c10 ?k10 ?a11 ?l11 ?c11 ?k11 ?a12 ?l12 ?c12 ?k12 ?a13 ?l13 ?c13 ?k13 ?a14 ?l14 ?c14 ?k14 ?a15 ?l15 ?c15 ?k15 ?a16 ?l16 ?c16 ?k16 ?a17 ?l17 ?c17 ?k17 ?a18 ?l18 ?c18 ?k18 ?a19 ?l19 ?c19 ?k19 ?a20 ?l20 ?c20 ?k20 ?a21 ?l21 ?c21 ?k21 ?a22 ?l22 ?c22 ?k22 ?a23 ?l23 ?c23 ?k23 ?a24 ?l24 ?c24 ?k24 ?z0 ?z1 ?z2 ?z3 ?z4 ?z5 ?z6 ?z7 ?z8 ?z9 ?z10 ?z11 ?z12 ?z13 ?z14 ?z15 ?z16 ?z17 ?z18 ?z19 ?gc0
    (case a0 => k_is)
    (case l0 => k_is)
    (case c0 => k_is)
    (case k0 => k_is)
    (case dn0_0 => k_is)
    (case a1 => k_is)
    (case l1 => k_is)
    (case c1 => k_is)
    (case k1 => k_is)
    (case a2 => k_is)
    (case l2 => k_is)
    (case c2 => k_is)
    (case k2 => k_is)
    (case a3 => k_is)
    (case l3 => k_is)
    (case c3 => k_is)
    (case k3 => k_is)
    (case a4 => k_is)
    (case l4 => k_is)
    (case c4 => k_is)
    (case k4 => k_is)
    (case a5 => k_is)
    (case l5 => k_is)
    (case c5 => k_is)
    (case k5 => k_is)
    (case a6 => k_is)
    (case l6 => k_is)
    (case c6 => k_is)
    (case k6 => k_is)
    (case a7 => k_is)
    (case l7 => k_is)
    (case c7 => k_is)
    (case k7 => k_is)
    (case a8 => k_is)
    (case l8 => k_is)
    (case c8 => k_is)
    (case k8 => k_is)
    (case a9 => k_is)
    (case l9 => k_is)
    (case c9 => k_is)
    (case k9 => k_is)
    (case a10 => k_is)
    (case l10 => k_is)
    (case c10 => k_is)
    (case k10 => k_is)
    (case a11 => k_is)
    (case l11 => k_is)
    (case c11 => k_is)
    (case k11 => k_is)
    (case a12 => k_is)
    (case l12 => k_is)
    (case c12 => k_is)
    (case k12 => k_is)
    (case a13 => k_is)
    (case l13 => k_is)
    (case c13 => k_is)
    (case k13 => k_is)
    (case a14 => k_is)
    (case l14 => k_is)
    (case c14 => k_is)
    (case k14 => k_is)
    (case a15 => k_is)
    (case l15 => k_is)
    (case c15 => k_is)
    (case k15 => k_is)
    (case a16 => k_is)
    (case l16 => k_is)
    (case c16 => k_is)
    (case k16 => k_is)
    (case a17 => k_is)
    (case l17 => k_is)
    (case c17 => k_is)
    (case k17 => k_is)
    (case a18 => k_is)
    (case l18 => k_is)
    (case c18 => k_is)
    (case k18 => k_is)
    (case a19 => k_is)
    (case l19 => k_is)
    (case c19 => k_is)
    (case k19 => k_is)
    (case a20 => k_is)
    (case l20 => k_is)
    (case c20 => k_is)
    (case k20 => k_is)
    (case a21 => k_is)
    (case l21 => k_is)
    (case c21 => k_is)
    (case k21 => k_is)
    (case a22 => k_is)
    (case l22 => k_is)
    (case c22 => k_is)
    (case k22 => k_is)
    (case a23 => k_is)
    (case l23 => k_is)
    (case c23 => k_is)
    (case k23 => k_is)
    (case a24 => k_is)
    (case l24 => k_is)
    (case c24 => k_is)
    (case k24 => k_is)
    (case z0 => k_is)
    (case z1 => k_is)
    (case z2 => k_is)
    (case z3 => k_is)
    (case z4 => k_is)
    (case z5 => k_is)
    (case z6 => k_is)
    (case z7 => k_is)
    (case z8 => k_is)
    (case z9 => k_is)
    (case z10 => k_is)
    (case z11 => k_is)
    (case z12 => k_is)
    (case z13 => k_is)
    (case z14 => k_is)
    (case z15 => k_is)
    (case z16 => k_is)
    (case z17 => k_is)
    (case z18 => k_is)
    (case z19 => k_is)
    (case gc0 => k_is)
